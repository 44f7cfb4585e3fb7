/- What boards tell. -/
import Derived.Test.YtoanlngmbcnglaaGreatDoorPlans
namespace Go.Proofs.YtoanlngmbcnglaaGreatDoor.Am
open Go
set_option linter.unusedVariables false
set_option linter.unusedSimpArgs false
section
open Go.Proofs Classical
set_option maxRecDepth 100000
inductive yf where|x2 (v5:Int)
def fR (q0:Kd)(v1:ByteArray)(v2_0:List GSession)(v2_1:List GPlan)(v2_2:List GRun)(v2_3 v2_4 v5 v6 v7:Int):US:=stL 50 [(1,T7 v1),(2,.box () [.s .far () 3 (v2_0.map GSession.t),.s .far () 9 (v2_1.map (GPlan.t q0 q0)),.s .far () 5 (v2_2.map (GRun.t q0)),tI v2_3,tI v2_4]),(5,T5 v5),(6,T5 v6),(7,T5 v7)]
def pT (q0:Kd)(v1:ByteArray)(v2_0:List GSession)(v2_1:List GPlan)(v2_2:List GRun)(v2_3 v2_4 v6 a:Int):US:=stL 50 [(1,T7 v1),(2,.box () [.s .far () 3 (v2_0.map GSession.t),.s .far () 9 (v2_1.map (GPlan.t q0 q0)),.s .far () 5 (v2_2.map (GRun.t q0)),tI v2_3,tI v2_4]),(5,T5 a),(6,T5 v6)]
abbrev nV:US→Exit→US→Prop:=Round E 35 (am Tryz.f35 1)
def G4 {q0:Kd}(v1:ByteArray)(v2_0:List GSession)(v2_1:List GPlan)(v2_2:List GRun)(v2_3 v2_4 v5 v6 v7:Int):yf→Prop| .x2 a=>Loops E 35 (am Tryz.f35 1) (fR q0 v1 v2_0 v2_1 v2_2 v2_3 v2_4 v5 v6 v7) (.exit 2) (pT q0 v1 v2_0 v2_1 v2_2 v2_3 v2_4 v6 a)
noncomputable def eV (v1:ByteArray)(a:GRun):List GState→Nat→Int→Option yf|[],i,v5=>some (.x2 v5)|hd::rest,i,v5=>cond (a.f0.toList==v1.toList) (cond (hd.f0==(1:Int)) (eV v1 a rest (i+1) (inc v5)) (eV v1 a rest (i+1) v5)) (eV v1 a rest (i+1) v5)
theorem GY {q0:Kd}(v1:ByteArray)(v2_0:List GSession)(v2_1:List GPlan)(v2_2:List GRun)(v2_3 v2_4 v6:Int)(a:GRun)(b:ak v2_2 v6=some a)(rest:List GState):∀(i:Nat)(v5:Int),(a.f3).drop i=rest→a.f3.length≤9223372036854775807→Ans (eV v1 a rest i v5) (G4 (q0:=q0) v1 v2_0 v2_1 v2_2 v2_3 v2_4 v5 v6 (i:Int)):=by
 induction rest with
 |nil =>intro i v5 d e;have hb:=aI d;unfold eV;exact TT (TV (show nV (fR q0 v1 v2_0 v2_1 v2_2 v2_3 v2_4 v5 v6 (i:Int)) (.exit 2) (pT q0 v1 v2_0 v2_1 v2_2 v2_3 v2_4 v6 v5)from RP [.row ((GRun.t q0) a),T8 (a.f3.length:Int),.b false] (AR (GRun.t q0) b<|ALn a.f3 GState.t<|AC hb<|AN)) (by intro h;cases h))
 |cons hd rest g =>
  intro i v5 d e;have hb:=aC d;have j:=aD d e;have c:=aq d;have l:=aB d;unfold eV;apply TW<;>intro k
  ·apply TW<;>intro m
   ·exact(g (i+1) (inc v5) c e).mono fun y f=>by have r:nV (fR q0 v1 v2_0 v2_1 v2_2 v2_3 v2_4 v5 v6 (i:Int)) .normal (fR q0 v1 v2_0 v2_1 v2_2 v2_3 v2_4 (inc v5) v6 (inc (i:Int))):=RP [.row ((GRun.t q0) a),T8 (a.f3.length:Int),.b true,.row ((GRun.t q0) a),.b true,.row ((GRun.t q0) a),.row (GState.t hd),.b true] (AR (GRun.t q0) b<|ALn a.f3 GState.t<|AC hb<|AR (GRun.t q0) b<|AC k<|AR (GRun.t q0) b<|AR GState.t l<|AC m<|AN);rw[j]at r;cases y<;>exact TU r f
   ·exact(g (i+1) v5 c e).mono fun y f=>by have r:nV (fR q0 v1 v2_0 v2_1 v2_2 v2_3 v2_4 v5 v6 (i:Int)) .normal (fR q0 v1 v2_0 v2_1 v2_2 v2_3 v2_4 v5 v6 (inc (i:Int))):=RP [.row ((GRun.t q0) a),T8 (a.f3.length:Int),.b true,.row ((GRun.t q0) a),.b true,.row ((GRun.t q0) a),.row (GState.t hd),.b false] (AR (GRun.t q0) b<|ALn a.f3 GState.t<|AC hb<|AR (GRun.t q0) b<|AC k<|AR (GRun.t q0) b<|AR GState.t l<|AC m<|AN);rw[j]at r;cases y<;>exact TU r f
  ·exact(g (i+1) v5 c e).mono fun y f=>by have r:nV (fR q0 v1 v2_0 v2_1 v2_2 v2_3 v2_4 v5 v6 (i:Int)) .normal (fR q0 v1 v2_0 v2_1 v2_2 v2_3 v2_4 v5 v6 (inc (i:Int))):=RP [.row ((GRun.t q0) a),T8 (a.f3.length:Int),.b true,.row ((GRun.t q0) a),.b false] (AR (GRun.t q0) b<|ALn a.f3 GState.t<|AC hb<|AR (GRun.t q0) b<|AC k<|AN);rw[j]at r;cases y<;>exact TU r f
inductive ye where|x0 (v5:Int)
def nW (q0:Kd)(v1:ByteArray)(v2_0:List GSession)(v2_1:List GPlan)(v2_2:List GRun)(v2_3 v2_4 v5 v6:Int):US:=stL 50 [(1,T7 v1),(2,.box () [.s .far () 3 (v2_0.map GSession.t),.s .far () 9 (v2_1.map (GPlan.t q0 q0)),.s .far () 5 (v2_2.map (GRun.t q0)),tI v2_3,tI v2_4]),(5,T5 v5),(6,T5 v6)]
def pS (q0:Kd)(a:Int):US:=stL 50 [(5,T5 a)]
abbrev yd:US→Exit→US→Prop:=Round E 35 (am Tryz.f35 0)
def G3 {q0:Kd}(v1:ByteArray)(v2_0:List GSession)(v2_1:List GPlan)(v2_2:List GRun)(v2_3 v2_4 v5 v6:Int):ye→Prop| .x0 a=>Loops E 35 (am Tryz.f35 0) (nW q0 v1 v2_0 v2_1 v2_2 v2_3 v2_4 v5 v6) (.exit 0) (pS q0 a)
noncomputable def ij (v1:ByteArray):List GRun→Nat→Int→Option ye
 |[],i,v5=>some (.x0 v5)
 |hd::rest,i,v5=>if hd.f3.length≤9223372036854775807 then(eV v1 hd hd.f3 0 v5).bind fun y=>match y with
  | .x2 a=>(ij v1 rest (i+1) a)else none
theorem GX {q0:Kd}(v1:ByteArray)(v2_0:List GSession)(v2_1:List GPlan)(v2_2:List GRun)(v2_3 v2_4:Int)(rest:List GRun):∀(i:Nat)(v5:Int),(v2_2).drop i=rest→v2_2.length≤9223372036854775807→Ans (ij v1 rest i v5) (G3 (q0:=q0) v1 v2_0 v2_1 v2_2 v2_3 v2_4 v5 (i:Int)):=by
 induction rest with
 |nil =>intro i v5 b d;have hb:=aI b;unfold ij;exact TT (TV (show yd (nW q0 v1 v2_0 v2_1 v2_2 v2_3 v2_4 v5 (i:Int)) (.exit 0) (pS q0 v5)from RP [T8 (v2_2.length:Int),.b false] (ALn v2_2 (GRun.t q0)<|AC hb<|AN)) (by intro h;cases h))
 |cons hd rest g =>
  intro i v5 b d;have hb:=aC b;have j:=aD b d;have e:=aq b;have k:=aB b;unfold ij;refine TY (fun f => ?_);refine TX (fun y c => ?_);replace c:=GY (q0:=q0) v1 v2_0 v2_1 v2_2 v2_3 v2_4 (i:Int) hd k hd.f3 0 v5 rfl f y c;cases y with
  |x2 a =>have l:=c;exact(g (i+1) a e d).mono fun y c=>by have r:yd (nW q0 v1 v2_0 v2_1 v2_2 v2_3 v2_4 v5 (i:Int)) .normal (nW q0 v1 v2_0 v2_1 v2_2 v2_3 v2_4 a (inc (i:Int))):=RP [T8 (v2_2.length:Int),.b true,.lp (.exit 2) (pT q0 v1 v2_0 v2_1 v2_2 v2_3 v2_4 (i:Int) a)] (ALn v2_2 (GRun.t q0)<|AC hb<|AL l<|AN);rw[j]at r;cases y<;>exact TU r c
noncomputable def ko (x0:GBoard)(b:ByteArray):Option (Int):=
  if x0.f2.length≤9223372036854775807 then(ij b x0.f2 0 0).bind fun y=>match y with
   | .x0 a=>(some (a))else none
theorem JQ {q0:Kd}(x0:GBoard)(b:ByteArray):Ans (ko x0 b) (fun r=>Does E 35 [.agg (GBoard.t .far q0 x0),T7 b] [T2 r]):=by
 unfold ko;refine TY (fun c => ?_);refine TX (fun y d => ?_);replace d:=GX (q0:=q0) b x0.f0 x0.f1 x0.f2 x0.f3 x0.f4 x0.f2 0 0 rfl c y d;cases y with
 |x0 a =>have e:=d;exact TT (DP Tryz.f35 [.lp (.exit 0) (pS q0 a)] (AL e<|AN))
inductive xS where|x2 (v5:Int)
def fL (q0:Kd)(v1:ByteArray)(v5:Int)(a:ByteArray)(b c d:Int)(e:List GState)(v11:List GRun)(f g:Int)(h:List GState)(i v20:Int):US:=stL 38 [(1,T7 v1),(5,T5 v5),(7,.box () [tS a,tI b,tI c,tI d,.s .far () 4 (e.map GState.t)]),(11,.one (.s .far () 5 (v11.map (GRun.t q0)))),(12,T5 f),(13,T5 g),(18,.one (.s .far () 4 (h.map GState.t))),(19,T5 i),(20,T5 v20)]
def pc (q0:Kd)(v1:ByteArray)(v11:List GRun)(a b c:Int):US:=stL 38 [(1,T7 v1),(5,T5 c),(11,.one (.s .far () 5 (v11.map (GRun.t q0)))),(12,T5 a),(13,T5 b)]
abbrev nJ:US→Exit→US→Prop:=Round E 25 (am Tryz.f25 1)
def Gv {q0:Kd}(v1:ByteArray)(v5:Int)(a:ByteArray)(b c d:Int)(e:List GState)(v11:List GRun)(f g:Int)(h:List GState)(i v20:Int):xS→Prop| .x2 j=>Loops E 25 (am Tryz.f25 1) (fL q0 v1 v5 a b c d e v11 f g h i v20) (.exit 2) (pc q0 v1 v11 f g j)
noncomputable def eQ (v1 a:ByteArray):List GState→Nat→Int→Option xS|[],i,v5=>some (.x2 v5)|hd::rest,i,v5=>cond (a.toList==v1.toList) (cond (hd.f0==(1:Int)) (eQ v1 a rest (i+1) (inc v5)) (eQ v1 a rest (i+1) v5)) (eQ v1 a rest (i+1) v5)
theorem Gt {q0:Kd}(v1 b:ByteArray)(c d e:Int)(f:List GState)(v11:List GRun)(g j:Int)(a:List GState)(rest:List GState):∀(i:Nat)(v5:Int),(a).drop i=rest→a.length≤9223372036854775807→Ans (eQ v1 b rest i v5) (Gv (q0:=q0) v1 v5 b c d e f v11 g j a (a.length:Int) (i:Int)):=by
 induction rest with
 |nil =>intro i v5 l m;have hb:=aI l;unfold eQ;exact TT (TV (show nJ (fL q0 v1 v5 b c d e f v11 g j a (a.length:Int) (i:Int)) (.exit 2) (pc q0 v1 v11 g j v5)from RP [.b false] (AC hb<|AN)) (by intro h;cases h))
 |cons hd rest o =>
  intro i v5 l m;have hb:=aC l;have p:=aD l m;have k:=aq l;have q:=aB l;unfold eQ;apply TW<;>intro s
  ·apply TW<;>intro u
   ·exact(o (i+1) (inc v5) k m).mono fun y n=>by have r:nJ (fL q0 v1 v5 b c d e f v11 g j a (a.length:Int) (i:Int)) .normal (fL q0 v1 (inc v5) b c d e f v11 g j a (a.length:Int) (inc (i:Int))):=RP [.b true,.row (GState.t hd),.b true,.b true] (AC hb<|AR GState.t q<|AC s<|AC u<|AN);rw[p]at r;cases y<;>exact TU r n
   ·exact(o (i+1) v5 k m).mono fun y n=>by have r:nJ (fL q0 v1 v5 b c d e f v11 g j a (a.length:Int) (i:Int)) .normal (fL q0 v1 v5 b c d e f v11 g j a (a.length:Int) (inc (i:Int))):=RP [.b true,.row (GState.t hd),.b true,.b false] (AC hb<|AR GState.t q<|AC s<|AC u<|AN);rw[p]at r;cases y<;>exact TU r n
  ·exact(o (i+1) v5 k m).mono fun y n=>by have r:nJ (fL q0 v1 v5 b c d e f v11 g j a (a.length:Int) (i:Int)) .normal (fL q0 v1 v5 b c d e f v11 g j a (a.length:Int) (inc (i:Int))):=RP [.b true,.row (GState.t hd),.b false] (AC hb<|AR GState.t q<|AC s<|AN);rw[p]at r;cases y<;>exact TU r n
inductive xR where|x0 (v5:Int)
def nK (q0:Kd)(v1:ByteArray)(v5:Int)(v11:List GRun)(a b:Int):US:=stL 38 [(1,T7 v1),(5,T5 v5),(11,.one (.s .far () 5 (v11.map (GRun.t q0)))),(12,T5 a),(13,T5 b)]
def pa (q0:Kd)(a:Int):US:=stL 38 [(5,T5 a)]
abbrev xQ:US→Exit→US→Prop:=Round E 25 (am Tryz.f25 0)
def Gu {q0:Kd}(v1:ByteArray)(v5:Int)(v11:List GRun)(a b:Int):xR→Prop| .x0 c=>Loops E 25 (am Tryz.f25 0) (nK q0 v1 v5 v11 a b) (.exit 0) (pa q0 c)
noncomputable def ia (v1:ByteArray):List GRun→Nat→Int→Option xR
 |[],i,v5=>some (.x0 v5)
 |hd::rest,i,v5=>if hd.f3.length≤9223372036854775807 then(eQ v1 hd.f0 hd.f3 0 v5).bind fun y=>match y with
  | .x2 a=>(ia v1 rest (i+1) a)else none
theorem Gs {q0:Kd}(v1:ByteArray)(v11:List GRun)(rest:List GRun):∀(i:Nat)(v5:Int),(v11).drop i=rest→v11.length≤9223372036854775807→Ans (ia v1 rest i v5) (Gu (q0:=q0) v1 v5 v11 (v11.length:Int) (i:Int)):=by
 induction rest with
 |nil =>intro i v5 b d;have hb:=aI b;unfold ia;exact TT (TV (show xQ (nK q0 v1 v5 v11 (v11.length:Int) (i:Int)) (.exit 0) (pa q0 v5)from RP [.b false] (AC hb<|AN)) (by intro h;cases h))
 |cons hd rest g =>
  intro i v5 b d;have hb:=aC b;have j:=aD b d;have e:=aq b;have k:=aB b;unfold ia;refine TY (fun f => ?_);refine TX (fun y c => ?_);replace c:=Gt (q0:=q0) v1 hd.f0 hd.f1.f0 hd.f1.f1 hd.f2 hd.f3 v11 (v11.length:Int) (i:Int) hd.f3 hd.f3 0 v5 rfl f y c;cases y with
  |x2 a =>have l:=c;exact(g (i+1) a e d).mono fun y c=>by have r:xQ (nK q0 v1 v5 v11 (v11.length:Int) (i:Int)) .normal (nK q0 v1 a v11 (v11.length:Int) (inc (i:Int))):=RP [.b true,.row ((GRun.t q0) hd),T8 (hd.f3.length:Int),.lp (.exit 2) (pc q0 v1 v11 (v11.length:Int) (i:Int) a)] (AC hb<|AR (GRun.t q0) k<|ALn hd.f3 GState.t<|AL l<|AN);rw[j]at r;cases y<;>exact TU r c
noncomputable def l4 (x0:GBoard)(b:ByteArray):Option (Int):=
  if x0.f2.length≤9223372036854775807 then(ia b x0.f2 0 0).bind fun y=>match y with
   | .x0 a=>(some (a))else none
theorem Iy {q0:Kd}(x0:GBoard)(b:ByteArray):Ans (l4 x0 b) (fun r=>Does E 25 [.agg (GBoard.t .far q0 x0),T7 b] [T2 r]):=by
 unfold l4;refine TY (fun c => ?_);refine TX (fun y d => ?_);replace d:=Gs (q0:=q0) b x0.f2 x0.f2 0 0 rfl c y d;cases y with
 |x0 a =>have e:=d;exact TT (DP Tryz.f25 [T8 (x0.f2.length:Int),.lp (.exit 0) (pa q0 a)] (ALn x0.f2 (GRun.t q0)<|AL e<|AN))
noncomputable def bE (b:GBoard)(n:ByteArray):Int:=(ko b n).getD 0
theorem Mo (a:ByteArray)(g:GRun):∀(rest:List GState)(i:Nat)(v:Int),∃r,eV a g rest i v=some (.x2 r)∧eQ a g.f0 rest i v=some (.x2 r)
 |[],i,v=>⟨v,rfl,rfl⟩
 |x::rest,i,v=>by have b:=Mo a g rest;unfold eV eQ;cases g.f0.toList==a.toList<;>cases x.f0==1<;>exact b _ _
theorem Mn (a:ByteArray):∀(rest:List GRun)(i:Nat)(v:Int),(∀y∈rest,ac.sm y)→∃r,ij a rest i v=some (.x0 r)∧ia a rest i v=some (.x0 r)
 |[],i,v,_=>⟨v,rfl,rfl⟩
 |x::rest,i,v,h=>by have b:=bI (h x (by simp)).2.2;obtain⟨r,c,d⟩:=Mo a x x.f3 0 v;unfold ij ia;simp only[Ub b,c,d,Ua];exact Mn a rest _ _ fun y e=>h y (by simp[e])
theorem FF (b:GBoard)(n:ByteArray)(h:ac.sm b):ko b n=some (bE b n)∧l4 b n=some (bE b n):=by
 obtain⟨r,c,d⟩:=Mn n b.f2 0 0 h.2.2.2;have a:=bI h.2.2;have e:ko b n=some r:=by unfold ko;rw[Ub a,c];rfl
 have f:l4 b n=some r:=by unfold l4;rw[Ub a,d];rfl
 have g:bE b n=r:=by unfold bE;rw[e];rfl
 rw[g];exact⟨e,f⟩
theorem oT {q0:Kd}(x0:GBoard)(a:ByteArray)(h:ac.sm x0):Does E 35 [.agg (GBoard.t .far q0 x0),T7 a] [T2 (bE x0 a)]:=by exact JQ x0 a _ (FF x0 a h).1
theorem tj {q0:Kd}(x0:GBoard)(a:ByteArray)(h:ac.sm x0):Does E 25 [.agg (GBoard.t .far q0 x0),T7 a] [T2 (bE x0 a)]:=by exact Iy x0 a _ (FF x0 a h).2
inductive Bx where|ret (v4:Int)|x0
def ls (q0:Kd)(v1:ByteArray)(v2_0:List GSession)(v2_1:List GPlan)(v2_2:List GRun)(v2_3 v2_4 v5:Int):US:=stL 23 [(1,T7 v1),(2,.box () [.s .far () 3 (v2_0.map GSession.t),.s .far () 9 (v2_1.map (GPlan.t q0 q0)),.s .far () 5 (v2_2.map (GRun.t q0)),tI v2_3,tI v2_4]),(5,T5 v5)]
def qL (q0:Kd)(a:Int):US:=stL 23 [(4,T5 a)]
def sj (q0:Kd)  : US:=stL 23 []
abbrev vB:US→Exit→US→Prop:=Round E 36 (am Tryz.f36 0)
def LS {q0:Kd}(v1:ByteArray)(v2_0:List GSession)(v2_1:List GPlan)(v2_2:List GRun)(v2_3 v2_4 v5:Int):Bx→Prop| .ret a=>Loops E 36 (am Tryz.f36 0) (ls q0 v1 v2_0 v2_1 v2_2 v2_3 v2_4 v5) .ret (qL q0 a)| .x0=>Loops E 36 (am Tryz.f36 0) (ls q0 v1 v2_0 v2_1 v2_2 v2_3 v2_4 v5) (.exit 0) (sj q0)
noncomputable def iI (v1:ByteArray):List GPlan→Nat→Option Bx|[],i=>some (.x0)|hd::rest,i=>cond (hd.f0.f0.toList==v1.toList) (some (.ret (i:Int))) (iI v1 rest (i+1))
theorem LR {q0:Kd}(v1:ByteArray)(v2_0:List GSession)(v2_1:List GPlan)(v2_2:List GRun)(v2_3 v2_4:Int)(rest:List GPlan):∀(i:Nat) ,(v2_1).drop i=rest→v2_1.length≤9223372036854775807→Ans (iI v1 rest i) (LS (q0:=q0) v1 v2_0 v2_1 v2_2 v2_3 v2_4 (i:Int)):=by
 induction rest with
 |nil =>intro i a b;have hb:=aI a;unfold iI;exact TT (TV (show vB (ls q0 v1 v2_0 v2_1 v2_2 v2_3 v2_4 (i:Int)) (.exit 0) (sj q0)from RP [T8 (v2_1.length:Int),.b false] (ALn v2_1 (GPlan.t q0 q0)<|AC hb<|AN)) (by intro h;cases h))
 |cons hd rest f =>
  intro i a b;have hb:=aC a;have g:=aD a b;have c:=aq a;have d:=aB a;unfold iI;apply TW<;>intro e
  ·exact TT (TV (show vB (ls q0 v1 v2_0 v2_1 v2_2 v2_3 v2_4 (i:Int)) .ret (qL q0 (i:Int))from RP [T8 (v2_1.length:Int),.b true,.row ((GPlan.t q0 q0) hd),.b true] (ALn v2_1 (GPlan.t q0 q0)<|AC hb<|AR (GPlan.t q0 q0) d<|AC e<|AN)) (by intro h;cases h))
  ·exact(f (i+1) c b).mono fun y j=>by have r:vB (ls q0 v1 v2_0 v2_1 v2_2 v2_3 v2_4 (i:Int)) .normal (ls q0 v1 v2_0 v2_1 v2_2 v2_3 v2_4 (inc (i:Int))):=RP [T8 (v2_1.length:Int),.b true,.row ((GPlan.t q0 q0) hd),.b false] (ALn v2_1 (GPlan.t q0 q0)<|AC hb<|AR (GPlan.t q0 q0) d<|AC e<|AN);rw[g]at r;cases y<;>exact TU r j
noncomputable def sW (x0:GBoard)(b:ByteArray):Option (Int):=
  if x0.f1.length≤9223372036854775807 then(iI b x0.f1 0).bind fun y=>match y with
   | .ret a=>(some (a))
   | .x0=>(some ((-1:Int)))else none
theorem Oh {q0:Kd}(x0:GBoard)(c:ByteArray):Ans (sW x0 c) (fun r=>Does E 36 [.agg (GBoard.t .far q0 x0),T7 c] [T2 r]):=by
 unfold sW;refine TY (fun d => ?_);refine TX (fun y b => ?_);replace b:=LR (q0:=q0) c x0.f0 x0.f1 x0.f2 x0.f3 x0.f4 x0.f1 0 rfl d y b;cases y with
 |ret a =>have e:=b;exact TT (DP Tryz.f36 [.lp .ret (qL q0 a)] (AL e<|AN))
 |x0 =>have e:=b;exact TT (DP Tryz.f36 [.lp (.exit 0) (sj q0)] (AL e<|AN))
noncomputable def zk (x0:GPlan)(a:ByteArray):Option (Bool):=some (x0.f0.f0.toList==a.toList)
theorem II {q0:Kd}(x0:GPlan)(a:ByteArray):Ans (zk x0 a) (fun r=>Does E 72 [.agg (GPlan.t .far q0 x0),.im .far () [tS a] 0] [T3 r]):=by unfold zk;exact TT (DP Tryz.f72 [] AN)
def EH (x:GPlan)(n:ByteArray):Bool:=x.f0.f0.toList==n.toList
theorem yG {q0:Kd}(x0:GPlan)(a:ByteArray):Does E 72 [.agg (GPlan.t .far q0 x0),.im .far () [tS a] 0] [T3 (EH x0 a)]:=by exact II x0 a _ rfl
inductive hU where|ret (v4:Int)|x0
def bF (q0:Kd)(v0:List GPlan)(a:ByteArray)(v7 v8:Int):US:=stL 19 [(0,.one (.s .far () 9 (v0.map (GPlan.t q0 q0)))),(1,.fni 72 [((),[tS a])]),(7,T5 v7),(8,T5 v8)]
def dz (q0:Kd)(a:Int):US:=stL 19 [(4,T5 a)]
def dJ (q0:Kd)  : US:=stL 19 []
abbrev ee:US→Exit→US→Prop:=Round E 71 (am Tryz.f71 0)
def mW {q0:Kd}(v0:List GPlan)(a:ByteArray)(v7 v8:Int):hU→Prop| .ret b=>Loops E 71 (am Tryz.f71 0) (bF q0 v0 a v7 v8) .ret (dz q0 b)| .x0=>Loops E 71 (am Tryz.f71 0) (bF q0 v0 a v7 v8) (.exit 0) (dJ q0)
noncomputable def a6 (a:ByteArray):List GPlan→Nat→Option hU|[],i=>some (.x0)|hd::rest,i=>cond (EH hd a) (some (.ret (i:Int))) (a6 a rest (i+1))
theorem mV {q0:Kd}(v0:List GPlan)(a:ByteArray)(rest:List GPlan):∀(i:Nat) ,(v0).drop i=rest→v0.length≤9223372036854775807→Ans (a6 a rest i) (mW (q0:=q0) v0 a (v0.length:Int) (i:Int)):=by
 induction rest with
 |nil =>intro i b c;have hb:=aI b;unfold a6;exact TT (TV (show ee (bF q0 v0 a (v0.length:Int) (i:Int)) (.exit 0) (dJ q0)from RP [.b false] (AC hb<|AN)) (by intro h;cases h))
 |cons hd rest g =>
  intro i b c;have hb:=aC b;have j:=aD b c;have d:=aq b;have e:=aB b;unfold a6;apply TW<;>intro f
  ·exact TT (TV (show ee (bF q0 v0 a (v0.length:Int) (i:Int)) .ret (dz q0 (i:Int))from RP [.b true,.row ((GPlan.t q0 q0) hd),rT] (AC hb<|AR (GPlan.t q0 q0) e<|AV (ψ:=fun k=>E.C k 72 [.agg (GPlan.t .far q0 hd),.im .far () [tS a] 0]=some [T3 true]) (TZ (yG hd a) (by rw[f]))<|AN)) (by intro h;cases h))
  ·exact(g (i+1) d c).mono fun y l=>by have r:ee (bF q0 v0 a (v0.length:Int) (i:Int)) .normal (bF q0 v0 a (v0.length:Int) (inc (i:Int))):=RP [.b true,.row ((GPlan.t q0 q0) hd),rF] (AC hb<|AR (GPlan.t q0 q0) e<|AV (ψ:=fun k=>E.C k 72 [.agg (GPlan.t .far q0 hd),.im .far () [tS a] 0]=some [T3 false]) (TZ (yG hd a) (by rw[f]))<|AN);rw[j]at r;cases y<;>exact TU r l
noncomputable def cg (x0:List GPlan)(a:ByteArray):Option (Int):=
  if x0.length≤9223372036854775807 then(a6 a x0 0).bind fun y=>match y with
   | .ret b=>(some (b))
   | .x0=>(some ((-1:Int)))else none
theorem nl {q0:Kd}(x0:List GPlan)(a:ByteArray):Ans (cg x0 a) (fun r=>Does E 71 [.one (.s .far () 9 (x0.map (GPlan.t q0 q0))),.fni 72 [((),[tS a])]] [T2 r]):=by
 unfold cg;refine TY (fun d => ?_);refine TX (fun y c => ?_);replace c:=mV (q0:=q0) x0 a x0 0 rfl d y c;cases y with
 |ret b =>have e:=c;exact TT (DP Tryz.f71 [T8 (x0.length:Int),.lp .ret (dz q0 b)] (ALn x0 (GPlan.t q0 q0)<|AL e<|AN))
 |x0 =>have e:=c;exact TT (DP Tryz.f71 [T8 (x0.length:Int),.lp (.exit 0) (dJ q0)] (ALn x0 (GPlan.t q0 q0)<|AL e<|AN))
noncomputable def tb (l:List GPlan)(n:ByteArray):Int:=(cg l n).getD (-1)
noncomputable def aF (b:GBoard)(n:ByteArray):Int:=tb b.f1 n
theorem PU (n:ByteArray):∀(rest:List GPlan)(i:Nat),
  (∃k:Nat,iI n rest i=some (.ret (k:Int))∧a6 n rest i=some (.ret (k:Int))∧k<i+rest.length)∨iI n rest i=some .x0∧a6 n rest i=some .x0
 |[],i => .inr ⟨rfl,rfl⟩
 |x::rest,i=>by
  unfold iI a6 EH;cases x.f0.f0.toList==n.toList with
  |true=>exact .inl ⟨i,rfl,rfl,by simp⟩
  |false =>
   rcases PU n rest (i+1)with⟨k,a,b,c⟩|h
   ·exact .inl ⟨k,a,b,by simp;omega⟩
   ·exact .inr h
theorem wt (b:GBoard)(n:ByteArray)(h:b.f1.length≤1050000):sW b n=some (aF b n)∧cg b.f1 n=some (aF b n) ∧ -1≤aF b n∧aF b n<(b.f1.length:Int):=by
 unfold aF tb sW cg;rw[Ub (by omega),Ub (by omega)];rcases PU n b.f1 0 with⟨k,a,c,d⟩|⟨a,c⟩
 ·rw[a,c];exact⟨rfl,rfl,show(-1:Int)≤(k:Int) by omega,show(k:Int)<_ by omega⟩
 ·rw[a,c];exact⟨rfl,rfl,show(-1:Int) ≤ -1 by omega,show(-1:Int)<_ by omega⟩
theorem fp {q0:Kd}(x0:GBoard)(a:ByteArray)(h:ac.sm x0):Does E 36 [.agg (GBoard.t .far q0 x0),T7 a] [T2 (aF x0 a)]:=by exact Oh x0 a _ (wt x0 a h.2.1.1).1
theorem m7 {q0:Kd}(x0:List GPlan)(a:ByteArray)(h:x0.length≤1050000):Does E 71 [.one (.s .far () 9 (x0.map (GPlan.t q0 q0))),.fni 72 [((),[tS a])]] [T2 (tb x0 a)]:=by exact nl x0 a _ (wt ⟨[],x0,[],0,0⟩ a h).2.1
noncomputable def w7 (x0:GBoard)(a:ByteArray):Option (Int):=if x0.f1.length≤1050000 then some (tb x0.f1 a)else none
theorem NA {q0:Kd}(x0:GBoard)(a:ByteArray):Ans (w7 x0 a) (fun r=>Does E 46 [.agg (GBoard.t .far q0 x0),T7 a] [T2 r]):=by unfold w7;refine TY (fun b => ?_);exact TT (DP Tryz.f46 [.ret [T2 (tb x0.f1 a)]] (AV (ψ:=fun k=>E.C k 71 [.one (.s .far () 9 (x0.f1.map (GPlan.t q0 q0))),.fni 72 [((),[tS a])]]=some [T2 (tb x0.f1 a)]) (m7 x0.f1 a b)<|AN))
theorem jC {q0:Kd}(x0:GBoard)(a:ByteArray)(h:ac.sm x0):Does E 46 [.agg (GBoard.t .far q0 x0),T7 a] [T2 (aF x0 a)]:=by exact NA x0 a _ (by unfold w7;rw[Ub h.2.1.1];rfl)
inductive BA where|x2 (v5:Int)
def eM (q0:Kd)(v1:ByteArray)(v2_0:List GSession)(v2_1:List GPlan)(v2_2:List GRun)(v2_3 v2_4 v5 v6 v7 v8:Int):US:=stL 80 [(1,T7 v1),(2,.box () [.s .far () 3 (v2_0.map GSession.t),.s .far () 9 (v2_1.map (GPlan.t q0 q0)),.s .far () 5 (v2_2.map (GRun.t q0)),tI v2_3,tI v2_4]),(5,T5 v5),(6,T5 v6),(7,T5 v7),(8,T5 v8)]
def nY (q0:Kd)(v1:ByteArray)(v2_0:List GSession)(v2_1:List GPlan)(v2_2:List GRun)(v2_3 v2_4 v6 a:Int):US:=stL 80 [(1,T7 v1),(2,.box () [.s .far () 3 (v2_0.map GSession.t),.s .far () 9 (v2_1.map (GPlan.t q0 q0)),.s .far () 5 (v2_2.map (GRun.t q0)),tI v2_3,tI v2_4]),(5,T5 a),(6,T5 v6)]
abbrev lu:US→Exit→US→Prop:=Round E 16 (am Tryz.f16 1)
def LW {q0:Kd}(v1:ByteArray)(v2_0:List GSession)(v2_1:List GPlan)(v2_2:List GRun)(v2_3 v2_4 v5 v6 v7 v8:Int):BA→Prop| .x2 a=>Loops E 16 (am Tryz.f16 1) (eM q0 v1 v2_0 v2_1 v2_2 v2_3 v2_4 v5 v6 v7 v8) (.exit 2) (nY q0 v1 v2_0 v2_1 v2_2 v2_3 v2_4 v6 a)
noncomputable def cr (v1:ByteArray)(v2_1:List GPlan)(v7:Int):List GState→Nat→Int→Option BA|[],i,v5=>some (.x2 v5)|hd::rest,i,v5=>cond (decide (v7≥(0:Int))) (cond (hd.f0==(1:Int)) ((ak v2_1 v7).bind fun a=>cond (decide ((i:Int)<(a.f0.f5.length:Int))) ((ak a.f0.f5 (i:Int)).bind fun g3=>cond (g3.f1.toList==v1.toList) (cr v1 v2_1 v7 rest (i+1) (inc v5)) (cr v1 v2_1 v7 rest (i+1) v5)) (cr v1 v2_1 v7 rest (i+1) v5)) (cr v1 v2_1 v7 rest (i+1) v5)) (some (.x2 v5))
theorem LU {q0:Kd}(v1:ByteArray)(v2_0:List GSession)(v2_1:List GPlan)(v2_2:List GRun)(v2_3 v2_4 v6 v7:Int)(a:GRun)(b:ak v2_2 v6=some a)(rest:List GState):∀(i:Nat)(v5:Int),(a.f3).drop i=rest→a.f3.length≤9223372036854775807→Ans (cr v1 v2_1 v7 rest i v5) (LW (q0:=q0) v1 v2_0 v2_1 v2_2 v2_3 v2_4 v5 v6 v7 (i:Int)):=by
 induction rest with
 |nil =>intro i v5 f g;have hb:=aI f;unfold cr;exact TT (TV (show lu (eM q0 v1 v2_0 v2_1 v2_2 v2_3 v2_4 v5 v6 v7 (i:Int)) (.exit 2) (nY q0 v1 v2_0 v2_1 v2_2 v2_3 v2_4 v6 v5)from RP [.row ((GRun.t q0) a),T8 (a.f3.length:Int),.b false] (AR (GRun.t q0) b<|ALn a.f3 GState.t<|AC hb<|AN)) (by intro h;cases h))
 |cons hd rest l =>
  intro i v5 f g;have hb:=aC f;have m:=aD f g;have d:=aq f;have n:=aB f;unfold cr;apply TW<;>intro j
  ·apply TW<;>intro o
   ·refine TX (fun c k => ?_);apply TW<;>intro p
    ·refine TX (fun g3 q => ?_);apply TW<;>intro s
     ·exact(l (i+1) (inc v5) d g).mono fun y e=>by have r:lu (eM q0 v1 v2_0 v2_1 v2_2 v2_3 v2_4 v5 v6 v7 (i:Int)) .normal (eM q0 v1 v2_0 v2_1 v2_2 v2_3 v2_4 (inc v5) v6 v7 (inc (i:Int))):=RP [.row ((GRun.t q0) a),T8 (a.f3.length:Int),.b true,.b true,.row ((GRun.t q0) a),.row (GState.t hd),.b true,.row ((GPlan.t q0 q0) c),T8 (c.f0.f5.length:Int),.b true,.row ((GPlan.t q0 q0) c),.row ((GTask.t q0) g3),.b true] (AR (GRun.t q0) b<|ALn a.f3 GState.t<|AC hb<|AC j<|AR (GRun.t q0) b<|AR GState.t n<|AC o<|AR (GPlan.t q0 q0) k<|ALn c.f0.f5 (GTask.t q0)<|AC p<|AR (GPlan.t q0 q0) k<|AR (GTask.t q0) q<|AC s<|AN);rw[m]at r;cases y<;>exact TU r e
     ·exact(l (i+1) v5 d g).mono fun y e=>by have r:lu (eM q0 v1 v2_0 v2_1 v2_2 v2_3 v2_4 v5 v6 v7 (i:Int)) .normal (eM q0 v1 v2_0 v2_1 v2_2 v2_3 v2_4 v5 v6 v7 (inc (i:Int))):=RP [.row ((GRun.t q0) a),T8 (a.f3.length:Int),.b true,.b true,.row ((GRun.t q0) a),.row (GState.t hd),.b true,.row ((GPlan.t q0 q0) c),T8 (c.f0.f5.length:Int),.b true,.row ((GPlan.t q0 q0) c),.row ((GTask.t q0) g3),.b false] (AR (GRun.t q0) b<|ALn a.f3 GState.t<|AC hb<|AC j<|AR (GRun.t q0) b<|AR GState.t n<|AC o<|AR (GPlan.t q0 q0) k<|ALn c.f0.f5 (GTask.t q0)<|AC p<|AR (GPlan.t q0 q0) k<|AR (GTask.t q0) q<|AC s<|AN);rw[m]at r;cases y<;>exact TU r e
    ·exact(l (i+1) v5 d g).mono fun y e=>by have r:lu (eM q0 v1 v2_0 v2_1 v2_2 v2_3 v2_4 v5 v6 v7 (i:Int)) .normal (eM q0 v1 v2_0 v2_1 v2_2 v2_3 v2_4 v5 v6 v7 (inc (i:Int))):=RP [.row ((GRun.t q0) a),T8 (a.f3.length:Int),.b true,.b true,.row ((GRun.t q0) a),.row (GState.t hd),.b true,.row ((GPlan.t q0 q0) c),T8 (c.f0.f5.length:Int),.b false] (AR (GRun.t q0) b<|ALn a.f3 GState.t<|AC hb<|AC j<|AR (GRun.t q0) b<|AR GState.t n<|AC o<|AR (GPlan.t q0 q0) k<|ALn c.f0.f5 (GTask.t q0)<|AC p<|AN);rw[m]at r;cases y<;>exact TU r e
   ·exact(l (i+1) v5 d g).mono fun y e=>by have r:lu (eM q0 v1 v2_0 v2_1 v2_2 v2_3 v2_4 v5 v6 v7 (i:Int)) .normal (eM q0 v1 v2_0 v2_1 v2_2 v2_3 v2_4 v5 v6 v7 (inc (i:Int))):=RP [.row ((GRun.t q0) a),T8 (a.f3.length:Int),.b true,.b true,.row ((GRun.t q0) a),.row (GState.t hd),.b false] (AR (GRun.t q0) b<|ALn a.f3 GState.t<|AC hb<|AC j<|AR (GRun.t q0) b<|AR GState.t n<|AC o<|AN);rw[m]at r;cases y<;>exact TU r e
  ·exact TT (TV (show lu (eM q0 v1 v2_0 v2_1 v2_2 v2_3 v2_4 v5 v6 v7 (i:Int)) (.exit 2) (nY q0 v1 v2_0 v2_1 v2_2 v2_3 v2_4 v6 v5)from RP [.row ((GRun.t q0) a),T8 (a.f3.length:Int),.b true,.b false] (AR (GRun.t q0) b<|ALn a.f3 GState.t<|AC hb<|AC j<|AN)) (by intro h;cases h))
inductive Bz where|x0 (v5:Int)
def rk (q0:Kd)(v1:ByteArray)(v2_0:List GSession)(v2_1:List GPlan)(v2_2:List GRun)(v2_3 v2_4 v5 v6:Int):US:=stL 80 [(1,T7 v1),(2,.box () [.s .far () 3 (v2_0.map GSession.t),.s .far () 9 (v2_1.map (GPlan.t q0 q0)),.s .far () 5 (v2_2.map (GRun.t q0)),tI v2_3,tI v2_4]),(5,T5 v5),(6,T5 v6)]
def sk (q0:Kd)(a:Int):US:=stL 80 [(5,T5 a)]
abbrev By:US→Exit→US→Prop:=Round E 16 (am Tryz.f16 0)
def LV {q0:Kd}(v1:ByteArray)(v2_0:List GSession)(v2_1:List GPlan)(v2_2:List GRun)(v2_3 v2_4 v5 v6:Int):Bz→Prop| .x0 a=>Loops E 16 (am Tryz.f16 0) (rk q0 v1 v2_0 v2_1 v2_2 v2_3 v2_4 v5 v6) (.exit 0) (sk q0 a)
noncomputable def gy (v1:ByteArray)(v2_0:List GSession)(v2_1:List GPlan)(v2_2:List GRun)(v2_3 v2_4:Int):List GRun→Nat→Int→Option Bz
 |[],i,v5=>some (.x0 v5)
 |hd::rest,i,v5=>if ac.sm (GBoard.mk v2_0 v2_1 v2_2 v2_3 v2_4)then if hd.f3.length≤9223372036854775807 then(cr v1 v2_1 (aF (GBoard.mk v2_0 v2_1 v2_2 v2_3 v2_4) hd.f0) hd.f3 0 v5).bind fun y=>match y with
  | .x2 a=>(gy v1 v2_0 v2_1 v2_2 v2_3 v2_4 rest (i+1) a)else none else none
theorem LT {q0:Kd}(v1:ByteArray)(v2_0:List GSession)(v2_1:List GPlan)(v2_2:List GRun)(v2_3 v2_4:Int)(rest:List GRun):∀(i:Nat)(v5:Int),(v2_2).drop i=rest→v2_2.length≤9223372036854775807→Ans (gy v1 v2_0 v2_1 v2_2 v2_3 v2_4 rest i v5) (LV (q0:=q0) v1 v2_0 v2_1 v2_2 v2_3 v2_4 v5 (i:Int)):=by
 induction rest with
 |nil =>intro i v5 b d;have hb:=aI b;unfold gy;exact TT (TV (show By (rk q0 v1 v2_0 v2_1 v2_2 v2_3 v2_4 v5 (i:Int)) (.exit 0) (sk q0 v5)from RP [T8 (v2_2.length:Int),.b false] (ALn v2_2 (GRun.t q0)<|AC hb<|AN)) (by intro h;cases h))
 |cons hd rest j =>
  intro i v5 b d;have hb:=aC b;have l:=aD b d;have e:=aq b;have g:=aB b;unfold gy;refine TY (fun m => ?_);refine TY (fun f => ?_);refine TX (fun y c => ?_);replace c:=LU (q0:=q0) v1 v2_0 v2_1 v2_2 v2_3 v2_4 (i:Int) (aF (GBoard.mk v2_0 v2_1 v2_2 v2_3 v2_4) hd.f0) hd g hd.f3 0 v5 rfl f y c;cases y with
  |x2 a =>have n:=c;exact(j (i+1) a e d).mono fun y c=>by have r:By (rk q0 v1 v2_0 v2_1 v2_2 v2_3 v2_4 v5 (i:Int)) .normal (rk q0 v1 v2_0 v2_1 v2_2 v2_3 v2_4 a (inc (i:Int))):=RP [T8 (v2_2.length:Int),.b true,.row ((GRun.t q0) hd),.ret [T2 (aF (GBoard.mk v2_0 v2_1 v2_2 v2_3 v2_4) hd.f0)],.lp (.exit 2) (nY q0 v1 v2_0 v2_1 v2_2 v2_3 v2_4 (i:Int) a)] (ALn v2_2 (GRun.t q0)<|AC hb<|AR (GRun.t q0) g<|AV (ψ:=fun k=>E.C k 36 [.agg (GBoard.t .far q0 (GBoard.mk v2_0 v2_1 v2_2 v2_3 v2_4)),T7 hd.f0]=some [T2 (aF (GBoard.mk v2_0 v2_1 v2_2 v2_3 v2_4) hd.f0)]) (fp (GBoard.mk v2_0 v2_1 v2_2 v2_3 v2_4) hd.f0 m)<|AL n<|AN);rw[l]at r;cases y<;>exact TU r c
noncomputable def kU (x0:GBoard)(b:ByteArray):Option (Int):=
  if x0.f2.length≤9223372036854775807 then(gy b x0.f0 x0.f1 x0.f2 x0.f3 x0.f4 x0.f2 0 0).bind fun y=>match y with
   | .x0 a=>(some (a))else none
theorem Oi {q0:Kd}(x0:GBoard)(b:ByteArray):Ans (kU x0 b) (fun r=>Does E 16 [.agg (GBoard.t .far q0 x0),T7 b] [T2 r]):=by
 unfold kU;refine TY (fun c => ?_);refine TX (fun y d => ?_);replace d:=LT (q0:=q0) b x0.f0 x0.f1 x0.f2 x0.f3 x0.f4 x0.f2 0 0 rfl c y d;cases y with
 |x0 a =>have e:=d;exact TT (DP Tryz.f16 [.lp (.exit 0) (sk q0 a)] (AL e<|AN))
inductive Ba where|x2 (v5:Int)
def iy (q0:Kd)(v1:ByteArray)(v2_0:List GSession)(v2_1:List GPlan)(v2_2:List GRun)(v2_3 v2_4 v5:Int)(v9:List GTask)(a:List GRun)(b c:Int)(d:List GState)(e f:Int):US:=stL 64 [(1,T7 v1),(2,.box () [.s .far () 3 (v2_0.map GSession.t),.s .far () 9 (v2_1.map (GPlan.t q0 q0)),.s .far () 5 (v2_2.map (GRun.t q0)),tI v2_3,tI v2_4]),(5,T5 v5),(9,.one (.s .far () 5 (v9.map (GTask.t q0)))),(13,.one (.s .far () 5 (a.map (GRun.t q0)))),(14,T5 b),(15,T5 c),(40,.one (.s .far () 4 (d.map GState.t))),(41,T5 e),(42,T5 f)]
def rR (q0:Kd)(v1:ByteArray)(v2_0:List GSession)(v2_1:List GPlan)(v2_2:List GRun)(v2_3 v2_4:Int)(a:List GRun)(b c d:Int):US:=stL 64 [(1,T7 v1),(2,.box () [.s .far () 3 (v2_0.map GSession.t),.s .far () 9 (v2_1.map (GPlan.t q0 q0)),.s .far () 5 (v2_2.map (GRun.t q0)),tI v2_3,tI v2_4]),(5,T5 d),(13,.one (.s .far () 5 (a.map (GRun.t q0)))),(14,T5 b),(15,T5 c)]
abbrev qZ:US→Exit→US→Prop:=Round E 26 (am Tryz.f26 1)
def K8 {q0:Kd}(v1:ByteArray)(v2_0:List GSession)(v2_1:List GPlan)(v2_2:List GRun)(v2_3 v2_4 v5:Int)(v9:List GTask)(a:List GRun)(b c:Int)(d:List GState)(e f:Int):Ba→Prop| .x2 g=>Loops E 26 (am Tryz.f26 1) (iy q0 v1 v2_0 v2_1 v2_2 v2_3 v2_4 v5 v9 a b c d e f) (.exit 2) (rR q0 v1 v2_0 v2_1 v2_2 v2_3 v2_4 a b c g)
noncomputable def fi (v1:ByteArray)(v9:List GTask):List GState→Nat→Int→Option Ba|[],i,v5=>some (.x2 v5)|hd::rest,i,v5=>cond (hd.f0==(1:Int)) ((ak v9 (i:Int)).bind fun g1=>cond (g1.f1.toList==v1.toList) (fi v1 v9 rest (i+1) (inc v5)) (fi v1 v9 rest (i+1) v5)) (fi v1 v9 rest (i+1) v5)
theorem K6 {q0:Kd}(v1:ByteArray)(v2_0:List GSession)(v2_1:List GPlan)(v2_2:List GRun)(v2_3 v2_4:Int)(v9:List GTask)(b:List GRun)(c d:Int)(a:List GState)(rest:List GState):∀(i:Nat)(v5:Int),(a).drop i=rest→a.length≤9223372036854775807→Ans (fi v1 v9 rest i v5) (K8 (q0:=q0) v1 v2_0 v2_1 v2_2 v2_3 v2_4 v5 v9 b c d a (a.length:Int) (i:Int)):=by
 induction rest with
 |nil =>intro i v5 f g;have hb:=aI f;unfold fi;exact TT (TV (show qZ (iy q0 v1 v2_0 v2_1 v2_2 v2_3 v2_4 v5 v9 b c d a (a.length:Int) (i:Int)) (.exit 2) (rR q0 v1 v2_0 v2_1 v2_2 v2_3 v2_4 b c d v5)from RP [.b false] (AC hb<|AN)) (by intro h;cases h))
 |cons hd rest k =>
  intro i v5 f g;have hb:=aC f;have l:=aD f g;have e:=aq f;have m:=aB f;unfold fi;apply TW<;>intro n
  ·refine TX (fun g1 o => ?_);apply TW<;>intro p
   ·exact(k (i+1) (inc v5) e g).mono fun y j=>by have r:qZ (iy q0 v1 v2_0 v2_1 v2_2 v2_3 v2_4 v5 v9 b c d a (a.length:Int) (i:Int)) .normal (iy q0 v1 v2_0 v2_1 v2_2 v2_3 v2_4 (inc v5) v9 b c d a (a.length:Int) (inc (i:Int))):=RP [.b true,.row (GState.t hd),.b true,.row ((GTask.t q0) g1),.b true] (AC hb<|AR GState.t m<|AC n<|AR (GTask.t q0) o<|AC p<|AN);rw[l]at r;cases y<;>exact TU r j
   ·exact(k (i+1) v5 e g).mono fun y j=>by have r:qZ (iy q0 v1 v2_0 v2_1 v2_2 v2_3 v2_4 v5 v9 b c d a (a.length:Int) (i:Int)) .normal (iy q0 v1 v2_0 v2_1 v2_2 v2_3 v2_4 v5 v9 b c d a (a.length:Int) (inc (i:Int))):=RP [.b true,.row (GState.t hd),.b true,.row ((GTask.t q0) g1),.b false] (AC hb<|AR GState.t m<|AC n<|AR (GTask.t q0) o<|AC p<|AN);rw[l]at r;cases y<;>exact TU r j
  ·exact(k (i+1) v5 e g).mono fun y j=>by have r:qZ (iy q0 v1 v2_0 v2_1 v2_2 v2_3 v2_4 v5 v9 b c d a (a.length:Int) (i:Int)) .normal (iy q0 v1 v2_0 v2_1 v2_2 v2_3 v2_4 v5 v9 b c d a (a.length:Int) (inc (i:Int))):=RP [.b true,.row (GState.t hd),.b false] (AC hb<|AR GState.t m<|AC n<|AN);rw[l]at r;cases y<;>exact TU r j
inductive A9 where|x0 (v5:Int)
def lh (q0:Kd)(v1:ByteArray)(v2_0:List GSession)(v2_1:List GPlan)(v2_2:List GRun)(v2_3 v2_4 v5:Int)(a:List GRun)(b c:Int):US:=stL 64 [(1,T7 v1),(2,.box () [.s .far () 3 (v2_0.map GSession.t),.s .far () 9 (v2_1.map (GPlan.t q0 q0)),.s .far () 5 (v2_2.map (GRun.t q0)),tI v2_3,tI v2_4]),(5,T5 v5),(13,.one (.s .far () 5 (a.map (GRun.t q0)))),(14,T5 b),(15,T5 c)]
def rQ (q0:Kd)(a:Int):US:=stL 64 [(5,T5 a)]
abbrev vf:US→Exit→US→Prop:=Round E 26 (am Tryz.f26 0)
def K7 {q0:Kd}(v1:ByteArray)(v2_0:List GSession)(v2_1:List GPlan)(v2_2:List GRun)(v2_3 v2_4 v5:Int)(a:List GRun)(b c:Int):A9→Prop| .x0 d=>Loops E 26 (am Tryz.f26 0) (lh q0 v1 v2_0 v2_1 v2_2 v2_3 v2_4 v5 a b c) (.exit 0) (rQ q0 d)
noncomputable def iz (v1:ByteArray)(v2_0:List GSession)(v2_1:List GPlan)(v2_2:List GRun)(v2_3 v2_4:Int):List GRun→Nat→Int→Option A9
 |[],i,v5=>some (.x0 v5)
 |hd::rest,i,v5=>if ac.sm (GBoard.mk v2_0 v2_1 v2_2 v2_3 v2_4)then cond (decide ((aF (GBoard.mk v2_0 v2_1 v2_2 v2_3 v2_4) hd.f0)<(0:Int)))
  (iz v1 v2_0 v2_1 v2_2 v2_3 v2_4 rest (i+1) v5)
  ((ak v2_1 (aF (GBoard.mk v2_0 v2_1 v2_2 v2_3 v2_4) hd.f0)).bind fun g1=>if 0≤(0:Int)∧(0:Int)≤(me (hd.f3.length:Int) (g1.f0.f5.length:Int))∧(me (hd.f3.length:Int) (g1.f0.f5.length:Int))≤(hd.f3.length:Int)then if((hd.f3.drop (0:Int).toNat).take ((me (hd.f3.length:Int) (g1.f0.f5.length:Int)).toNat-(0:Int).toNat)).length≤9223372036854775807 then(fi v1 g1.f0.f5 ((hd.f3.drop (0:Int).toNat).take ((me (hd.f3.length:Int) (g1.f0.f5.length:Int)).toNat-(0:Int).toNat)) 0 v5).bind fun y=>match y with
   | .x2 a=>(iz v1 v2_0 v2_1 v2_2 v2_3 v2_4 rest (i+1) a)else none else none)else none
theorem K5 {q0:Kd}(v1:ByteArray)(v2_0:List GSession)(v2_1:List GPlan)(v2_2:List GRun)(v2_3 v2_4:Int)(a:List GRun)(rest:List GRun):∀(i:Nat)(v5:Int),(a).drop i=rest→a.length≤9223372036854775807→Ans (iz v1 v2_0 v2_1 v2_2 v2_3 v2_4 rest i v5) (K7 (q0:=q0) v1 v2_0 v2_1 v2_2 v2_3 v2_4 v5 a (a.length:Int) (i:Int)):=by
 induction rest with
 |nil =>intro i v5 d f;have hb:=aI d;unfold iz;exact TT (TV (show vf (lh q0 v1 v2_0 v2_1 v2_2 v2_3 v2_4 v5 a (a.length:Int) (i:Int)) (.exit 0) (rQ q0 v5)from RP [.b false] (AC hb<|AN)) (by intro h;cases h))
 |cons hd rest j =>
  intro i v5 d f;have hb:=aC d;have l:=aD d f;have e:=aq d;have m:=aB d;unfold iz;refine TY (fun n => ?_);apply TW<;>intro o
  ·exact(j (i+1) v5 e f).mono fun y c=>by have r:vf (lh q0 v1 v2_0 v2_1 v2_2 v2_3 v2_4 v5 a (a.length:Int) (i:Int)) .normal (lh q0 v1 v2_0 v2_1 v2_2 v2_3 v2_4 v5 a (a.length:Int) (inc (i:Int))):=RP [.b true,.row ((GRun.t q0) hd),.ret [T2 (aF (GBoard.mk v2_0 v2_1 v2_2 v2_3 v2_4) hd.f0)],.b true] (AC hb<|AR (GRun.t q0) m<|AV (ψ:=fun k=>E.C k 46 [.agg (GBoard.t .far q0 (GBoard.mk v2_0 v2_1 v2_2 v2_3 v2_4)),T7 hd.f0]=some [T2 (aF (GBoard.mk v2_0 v2_1 v2_2 v2_3 v2_4) hd.f0)]) (jC (GBoard.mk v2_0 v2_1 v2_2 v2_3 v2_4) hd.f0 n)<|AC o<|AN);rw[l]at r;cases y<;>exact TU r c
  ·refine TX (fun g1 q => ?_);refine TY (fun s => ?_);refine TY (fun g => ?_);refine TX (fun y c => ?_);replace c:=K6 (q0:=q0) v1 v2_0 v2_1 v2_2 v2_3 v2_4 g1.f0.f5 a (a.length:Int) (i:Int) ((hd.f3.drop (0:Int).toNat).take ((me (hd.f3.length:Int) (g1.f0.f5.length:Int)).toNat-(0:Int).toNat)) ((hd.f3.drop (0:Int).toNat).take ((me (hd.f3.length:Int) (g1.f0.f5.length:Int)).toNat-(0:Int).toNat)) 0 v5 rfl g y c;cases y with
   |x2 b =>have u:=c;exact(j (i+1) b e f).mono fun y c=>by have r:vf (lh q0 v1 v2_0 v2_1 v2_2 v2_3 v2_4 v5 a (a.length:Int) (i:Int)) .normal (lh q0 v1 v2_0 v2_1 v2_2 v2_3 v2_4 b a (a.length:Int) (inc (i:Int))):=RP [.b true,.row ((GRun.t q0) hd),.ret [T2 (aF (GBoard.mk v2_0 v2_1 v2_2 v2_3 v2_4) hd.f0)],.b false,.row ((GPlan.t q0 q0) g1),T8 (hd.f3.length:Int),T8 (g1.f0.f5.length:Int),T8 (me (hd.f3.length:Int) (g1.f0.f5.length:Int)),.rows (((hd.f3.drop (0:Int).toNat).take ((me (hd.f3.length:Int) (g1.f0.f5.length:Int)).toNat-(0:Int).toNat)).map GState.t),T8 (((hd.f3.drop (0:Int).toNat).take ((me (hd.f3.length:Int) (g1.f0.f5.length:Int)).toNat-(0:Int).toNat)).length:Int),.lp (.exit 2) (rR q0 v1 v2_0 v2_1 v2_2 v2_3 v2_4 a (a.length:Int) (i:Int) b)] (AC hb<|AR (GRun.t q0) m<|AV (ψ:=fun k=>E.C k 46 [.agg (GBoard.t .far q0 (GBoard.mk v2_0 v2_1 v2_2 v2_3 v2_4)),T7 hd.f0]=some [T2 (aF (GBoard.mk v2_0 v2_1 v2_2 v2_3 v2_4) hd.f0)]) (jC (GBoard.mk v2_0 v2_1 v2_2 v2_3 v2_4) hd.f0 n)<|AC o<|AR (GPlan.t q0 q0) q<|ALn hd.f3 GState.t<|ALn g1.f0.f5 (GTask.t q0)<|AC (p:=(if(g1.f0.f5.length:Int)<(hd.f3.length:Int)then(g1.f0.f5.length:Int)else(hd.f3.length:Int))=me (hd.f3.length:Int) (g1.f0.f5.length:Int)) rfl<|AC (p:=0≤(0:Int)∧(0:Int)≤(me (hd.f3.length:Int) (g1.f0.f5.length:Int))∧(me (hd.f3.length:Int) (g1.f0.f5.length:Int))≤((hd.f3.map GState.t).length:Int)) (Fo s)<|AC (p:=((hd.f3.map GState.t).drop (0:Int).toNat).take ((me (hd.f3.length:Int) (g1.f0.f5.length:Int)).toNat-(0:Int).toNat)=((hd.f3.drop (0:Int).toNat).take ((me (hd.f3.length:Int) (g1.f0.f5.length:Int)).toNat-(0:Int).toNat)).map GState.t) Ra<|ALn ((hd.f3.drop (0:Int).toNat).take ((me (hd.f3.length:Int) (g1.f0.f5.length:Int)).toNat-(0:Int).toNat)) GState.t<|AL u<|AN);rw[l]at r;cases y<;>exact TU r c
noncomputable def po (x0:GBoard)(b:ByteArray):Option (Int):=
  if x0.f2.length≤9223372036854775807 then(iz b x0.f0 x0.f1 x0.f2 x0.f3 x0.f4 x0.f2 0 0).bind fun y=>match y with
   | .x0 a=>(some (a))else none
theorem NC {q0:Kd}(x0:GBoard)(b:ByteArray):Ans (po x0 b) (fun r=>Does E 26 [.agg (GBoard.t .far q0 x0),T7 b] [T2 r]):=by
 unfold po;refine TY (fun c => ?_);refine TX (fun y d => ?_);replace d:=K5 (q0:=q0) b x0.f0 x0.f1 x0.f2 x0.f3 x0.f4 x0.f2 x0.f2 0 0 rfl c y d;cases y with
 |x0 a =>have e:=d;exact TT (DP Tryz.f26 [T8 (x0.f2.length:Int),.lp (.exit 0) (rQ q0 a)] (ALn x0.f2 (GRun.t q0)<|AL e<|AN))
noncomputable def bJ (b:GBoard)(n:ByteArray):Int:=(kU b n).getD 0
theorem Ks (n:ByteArray)(a:List GPlan)(k:Int)(h:k<0):∀(rest:List GState)(i:Nat)(v:Int),cr n a k rest i v=some (.x2 v)
 |[],i,v=>rfl
 |x::rest,i,v=>by unfold cr;rw[show decide (k≥(0:Int))=false from Uk (by omega)];rfl
theorem As (n:ByteArray)(a:List GPlan)(k:Int)(g:GPlan)(b:ak a k=some g):∀(rest:List GState)(i:Nat)(v:Int),g.f0.f5.length≤i→cr n a k rest i v=some (.x2 v)
 |[],i,v,_=>rfl
 |x::rest,i,v,hi=>by have c:=As n a k g b rest (i+1) v (by omega);unfold cr;rw[b,Ua,show decide ((i:Int)<(g.f0.f5.length:Int))=false from Uk (by omega),Uu,c];cases decide (k≥(0:Int))<;>cases x.f0==(1:Int)<;>rfl
theorem MQ (n:ByteArray)(a:List GPlan)(k:Int)(g:GPlan)(c:0≤k)(b:ak a k=some g):∀(rest:List GState)(i:Nat)(v:Int),∃r,cr n a k rest i v=some (.x2 r)∧fi n g.f0.f5 (rest.take (g.f0.f5.length-i)) i v=some (.x2 r)
 |[],i,v=>⟨v,rfl,by simp[fi]⟩
 |x::rest,i,v=>by
  by_cases hi:i<g.f0.f5.length
  ·obtain⟨y,d⟩:∃y,ak g.f0.f5 (i:Int)=some y:=by rw[ct,Ug hi];exact⟨_,rfl⟩
   rw[show g.f0.f5.length-i=(g.f0.f5.length-(i+1))+1 by omega,List.take_succ_cons];have e:=MQ n a k g c b rest (i+1);unfold cr fi;simp only[b,d,Ua,show decide ((i:Int)<(g.f0.f5.length:Int))=true from Uj (by omega),show decide (k≥(0:Int))=true from Uj c,Uo];cases x.f0==(1:Int)<;>cases y.f1.toList==n.toList<;>exact e _
  ·refine⟨v,As n a k g b _ i v (by omega),?_⟩;rw[show g.f0.f5.length-i=0 by omega,List.take_zero];rfl
theorem Qm (n:ByteArray)(b:GBoard)(hb:ac.sm b):∀(rest:List GRun)(i:Nat)(v:Int),(∀y∈rest,ac.sm y)→∃r,gy n b.f0 b.f1 b.f2 b.f3 b.f4 rest i v=some (.x0 r)∧iz n b.f0 b.f1 b.f2 b.f3 b.f4 rest i v=some (.x0 r)
 |[],i,v,_=>⟨v,rfl,rfl⟩
 |x::rest,i,v,h=>by
  have e:=bI (h x (by simp)).2.2;have a:ac.sm (GBoard.mk b.f0 b.f1 b.f2 b.f3 b.f4):=hb;obtain⟨-, -,s,t⟩:=wt b x.f0 hb.2.1.1;have c:=fun v=>Qm n b hb rest (i+1) v fun y f=>h y (by simp[f])
  unfold gy iz;simp only[Ub e,Ub a];rw[show(GBoard.mk b.f0 b.f1 b.f2 b.f3 b.f4)=b from rfl];by_cases q:aF b x.f0<0
  ·rw[Ks n _ _ q,Uj q];exact c v
  ·obtain⟨g,d,_⟩:=gU (l:=b.f1) (k:=aF b x.f0) (by omega);obtain⟨r,j,m⟩:=MQ n b.f1 _ g (by omega) d x.f3 0 v;rw[Uk q,d,j];simp only[Uu,Ua];have o:me (x.f3.length:Int) (g.f0.f5.length:Int)=((min x.f3.length g.f0.f5.length:Nat):Int):=by unfold me;split<;>omega
   have p:(x.f3.drop 0).take (min x.f3.length g.f0.f5.length-0)=x.f3.take (g.f0.f5.length-0):=by rw[UM,Xb,Xb,List.take_eq_take_iff];omega
   rw[o];simp only[Vz,Int.toNat_zero];rw[p,Ub (by omega),Ub (by simp;omega),m];exact c r
theorem Fy (b:GBoard)(n:ByteArray)(h:ac.sm b):kU b n=some (bJ b n)∧po b n=some (bJ b n):=by
 obtain⟨r,c,d⟩:=Qm n b h b.f2 0 0 h.2.2.2;have a:=bI h.2.2;have e:kU b n=some r:=by unfold kU;rw[Ub a,c];rfl
 have f:po b n=some r:=by unfold po;rw[Ub a,d];rfl
 have g:bJ b n=r:=by unfold bJ;rw[e];rfl
 rw[g];exact⟨e,f⟩
theorem ms {q0:Kd}(x0:GBoard)(a:ByteArray)(h:ac.sm x0):Does E 16 [.agg (GBoard.t .far q0 x0),T7 a] [T2 (bJ x0 a)]:=by exact Oi x0 a _ (Fy x0 a h).1
theorem Cs {q0:Kd}(x0:GBoard)(a:ByteArray)(h:ac.sm x0):Does E 26 [.agg (GBoard.t .far q0 x0),T7 a] [T2 (bJ x0 a)]:=by exact NC x0 a _ (Fy x0 a h).2
end
end Go.Proofs.YtoanlngmbcnglaaGreatDoor.Am
