/- Right runs of a board, a part. -/
import Derived.Test.YtoanlngmbcnglaaGreatDoorOrdf
import Derived.Test.YtoanlngmbcnglaaGreatDoorRitf
namespace Go.Proofs.YtoanlngmbcnglaaGreatDoor.Am
open Go
set_option linter.unusedVariables false
set_option linter.unusedSimpArgs false
section
open Go.Proofs Classical
set_option maxRecDepth 100000
noncomputable def ud (x0 a:GRun):Option (Bool):=cond (Op.bytesLess x0.f0.toList a.f0.toList) (some (true)) (cond (x0.f0.toList==a.f0.toList) (some (decide (x0.f1.f0<a.f1.f0))) (some (false)))
theorem J7 (x0 b:GRun):Ans (ud x0 b) (fun r=>Does E 37 [.agg (GRun.t .far x0),.agg (GRun.t .far b)] [T3 r]):=by
 unfold ud;apply TW<;>intro a
 ·exact TT (DP Tryz.f37 [.b true] (AC a<|AN))
 ·apply TW<;>intro c
  ·exact TT (DP Tryz.f37 [.b false,.b true] (AC a<|AC c<|AN))
  ·exact TT (DP Tryz.f37 [.b false,.b false] (AC a<|AC c<|AN))
noncomputable def ahead (a b:GRun):Bool:=Op.bytesLess a.f0.toList b.f0.toList ||((a.f0.toList==b.f0.toList)&&decide (a.f1.f0<b.f1.f0))
theorem lR (x0:GRun)(a:GRun):Does E 37 [.agg (GRun.t .far x0),.agg (GRun.t .far a)] [T3 (ahead x0 a)]:=by exact J7 x0 a _ (by unfold ud ahead;cases Op.bytesLess x0.f0.toList a.f0.toList<;>cases x0.f0.toList==a.f0.toList<;>rfl)
noncomputable def rx (x0:ByteArray):Option (Bool):=some (!(x0.toList==x0.toList))
theorem yQ (x0:ByteArray):Ans (rx x0) (fun r=>Does E 101 [T7 x0] [T3 r]):=by unfold rx;exact TT (DP Tryz.f101 [] AN)
def Az (x:ByteArray):Bool := !(x.toList==x.toList)
theorem bK (x0:ByteArray):Does E 101 [T7 x0] [T3 (Az x0)]:=by exact yQ x0 _ rfl
noncomputable def uu (x0:Int):Option (Bool):=some (x0 != x0)
theorem CD (x0:Int):Ans (uu x0) (fun r=>Does E 102 [T5 x0] [T3 r]):=by unfold uu;exact TT (DP Tryz.f102 [] AN)
def wd (x:Int):Bool:=x != x
theorem cl (x0:Int):Does E 102 [T5 x0] [T3 (wd x0)]:=by exact CD x0 _ rfl
noncomputable def ir (x0 a:ByteArray):Option (Int):=cond (Az x0) (cond (Az a) (some (0)) (some ((-1:Int)))) (cond (Az a) (some (1)) (cond (Op.bytesLess x0.toList a.toList) (some ((-1:Int))) (cond (!(Op.bytesLess x0.toList a.toList ||x0.toList==a.toList)) (some (1)) (some (0)))))
theorem wN (x0 a:ByteArray):Ans (ir x0 a) (fun r=>Does E 76 [T7 x0,T7 a] [T2 r]):=by
 unfold ir;apply TW<;>intro c
 ·apply TW<;>intro b
  ·exact TT (DP Tryz.f76 [rT,rT] (AD (T1 (bK x0) c)<|AD (T1 (bK a) b)<|AN))
  ·exact TT (DP Tryz.f76 [rT,rF] (AD (T1 (bK x0) c)<|AD (T1 (bK a) b)<|AN))
 ·apply TW<;>intro b
  ·exact TT (DP Tryz.f76 [rF,rT] (AD (T1 (bK x0) c)<|AD (T1 (bK a) b)<|AN))
  ·apply TW<;>intro d
   ·exact TT (DP Tryz.f76 [rF,rF,.b true] (AD (T1 (bK x0) c)<|AD (T1 (bK a) b)<|AC d<|AN))
   ·apply TW<;>intro e
    ·exact TT (DP Tryz.f76 [rF,rF,.b false,.b true] (AD (T1 (bK x0) c)<|AD (T1 (bK a) b)<|AC d<|AC e<|AN))
    ·exact TT (DP Tryz.f76 [rF,rF,.b false,.b false] (AD (T1 (bK x0) c)<|AD (T1 (bK a) b)<|AC d<|AC e<|AN))
noncomputable def qg (a b:ByteArray):Int:=cond (Op.bytesLess a.toList b.toList) (-1) (cond (a.toList==b.toList) 0 1)
theorem RB (a b:ByteArray):ir a b=some (qg a b):=by
 have e:∀x,Az x=false:=fun x=>by unfold Az;simp
 unfold ir qg;rw[e,e];cases Op.bytesLess a.toList b.toList<;>cases a.toList==b.toList<;>rfl
theorem wH (x0:ByteArray)(a:ByteArray):Does E 76 [T7 x0,T7 a] [T2 (qg x0 a)]:=by exact wN x0 a _ (RB x0 a)
noncomputable def j7 (x0 a:Int):Option (Int):=cond (wd x0) (cond (wd a) (some (0)) (some ((-1:Int)))) (cond (wd a) (some (1)) (cond (decide (x0<a)) (some ((-1:Int))) (cond (decide (x0>a)) (some (1)) (some (0)))))
theorem AI (x0 a:Int):Ans (j7 x0 a) (fun r=>Does E 77 [T5 x0,T5 a] [T2 r]):=by
 unfold j7;apply TW<;>intro c
 ·apply TW<;>intro b
  ·exact TT (DP Tryz.f77 [rT,rT] (AD (T1 (cl x0) c)<|AD (T1 (cl a) b)<|AN))
  ·exact TT (DP Tryz.f77 [rT,rF] (AD (T1 (cl x0) c)<|AD (T1 (cl a) b)<|AN))
 ·apply TW<;>intro b
  ·exact TT (DP Tryz.f77 [rF,rT] (AD (T1 (cl x0) c)<|AD (T1 (cl a) b)<|AN))
  ·apply TW<;>intro d
   ·exact TT (DP Tryz.f77 [rF,rF,.b true] (AD (T1 (cl x0) c)<|AD (T1 (cl a) b)<|AC d<|AN))
   ·apply TW<;>intro e
    ·exact TT (DP Tryz.f77 [rF,rF,.b false,.b true] (AD (T1 (cl x0) c)<|AD (T1 (cl a) b)<|AC d<|AC e<|AN))
    ·exact TT (DP Tryz.f77 [rF,rF,.b false,.b false] (AD (T1 (cl x0) c)<|AD (T1 (cl a) b)<|AC d<|AC e<|AN))
def qf (a b:Int):Int:=cond (decide (a<b)) (-1) (cond (decide (a>b)) 1 0)
theorem RA (a b:Int):j7 a b=some (qf a b):=by
 have e:∀x,wd x=false:=fun x=>by unfold wd;simp
 unfold j7 qf;rw[e,e];cases decide (a<b)<;>cases decide (a>b)<;>rfl
theorem AE (x0:Int)(a:Int):Does E 77 [T5 x0,T5 a] [T2 (qf x0 a)]:=by exact AI x0 a _ (RA x0 a)
inductive xM where|ret (v2:Int)|x0
def jo (v3:Int)(v6:List Int)(v7 v8:Int):US:=stL 18 [(3,T5 v3),(6,.one (.s .far () 1 (v6.map etI))),(7,T5 v7),(8,T5 v8)]
def oh (a:Int):US:=stL 18 [(2,T5 a)]
def o5 (v3:Int):US:=stL 18 [(3,T5 v3)]
abbrev rK:US→Exit→US→Prop:=Round E 75 (am Tryz.f75 0)
def Gn (v3:Int)(v6:List Int)(v7 v8:Int):xM→Prop| .ret a=>Loops E 75 (am Tryz.f75 0) (jo v3 v6 v7 v8) .ret (oh a)| .x0=>Loops E 75 (am Tryz.f75 0) (jo v3 v6 v7 v8) (.exit 0) (o5 v3)
noncomputable def hZ (v3:Int):List Int→Nat→Option xM|[],i=>some (.x0)|hd::rest,i=>cond (hd != v3) (some (.ret hd)) (hZ v3 rest (i+1))
theorem Gm (v3:Int)(v6:List Int)(rest:List Int):∀(i:Nat) ,(v6).drop i=rest→v6.length≤9223372036854775807→Ans (hZ v3 rest i) (Gn v3 v6 (v6.length:Int) (i:Int)):=by
 induction rest with
 |nil =>intro i a b;have hb:=aI a;unfold hZ;exact TT (TV (show rK (jo v3 v6 (v6.length:Int) (i:Int)) (.exit 0) (o5 v3)from RP [.b false] (AC hb<|AN)) (by intro h;cases h))
 |cons hd rest f =>
  intro i a b;have hb:=aC a;have g:=aD a b;have c:=aq a;have d:=aB a;unfold hZ;apply TW<;>intro e
  ·exact TT (TV (show rK (jo v3 v6 (v6.length:Int) (i:Int)) .ret (oh hd)from RP [.b true,.row (etI hd),.b true] (AC hb<|AR etI d<|AC e<|AN)) (by intro h;cases h))
  ·exact(f (i+1) c b).mono fun y j=>by have r:rK (jo v3 v6 (v6.length:Int) (i:Int)) .normal (jo v3 v6 (v6.length:Int) (inc (i:Int))):=RP [.b true,.row (etI hd),.b false] (AC hb<|AR etI d<|AC e<|AN);rw[g]at r;cases y<;>exact TU r j
noncomputable def o6 (x0:List Int):Option (Int):=
  if x0.length≤9223372036854775807 then(hZ 0 x0 0).bind fun y=>match y with
   | .ret a=>(some (a))
   | .x0=>(some (0))else none
theorem H5 (x0:List Int):Ans (o6 x0) (fun r=>Does E 75 [.one (.s .far () 1 (x0.map etI))] [T2 r]):=by
 unfold o6;refine TY (fun c => ?_);refine TX (fun y b => ?_);replace b:=Gm 0 x0 x0 0 rfl c y b;cases y with
 |ret a =>have d:=b;exact TT (DP Tryz.f75 [T8 (x0.length:Int),.lp .ret (oh a)] (ALn x0 etI<|AL d<|AN))
 |x0 =>have d:=b;exact TT (DP Tryz.f75 [T8 (x0.length:Int),.lp (.exit 0) (o5 0)] (ALn x0 etI<|AL d<|AN))
def orI:List Int→Int|[]=>0|x::l=>cond (x != 0) x (orI l)
theorem Ss:∀(rest:List Int)(i:Nat),∃r,hZ 0 rest i=some r∧(match r with| .ret w=>w| .x0=>(0:Int))=orI rest
 |[],i=>⟨.x0,rfl,rfl⟩
 |x::rest,i=>by
  obtain⟨r,a,b⟩:=Ss rest (i+1);unfold hZ orI;cases x != 0 with
  |true=>exact⟨.ret x,rfl,rfl⟩
  |false=>exact⟨r,a,b⟩
theorem SK (l:List Int)(h:l.length≤1050000):o6 l=some (orI l):=by obtain⟨r,a,b⟩:=Ss l 0;unfold o6;rw[Ub (by omega),a, ←b];cases r<;>rfl
theorem HR (x0:List Int)(h:x0.length≤1050000):Does E 75 [.one (.s .far () 1 (x0.map etI))] [T2 (orI x0)]:=by exact H5 x0 _ (SK x0 h)
noncomputable def pp (x0 a:GRun):Option (Int):=if([qg x0.f0 a.f0,qf x0.f1.f0 a.f1.f0]).length≤1050000 then some (orI ([qg x0.f0 a.f0,qf x0.f1.f0 a.f1.f0]))else none
theorem C2 (x0 a:GRun):Ans (pp x0 a) (fun r=>Does E 48 [.agg (GRun.t .far x0),.agg (GRun.t .far a)] [T2 r]):=by unfold pp;refine TY (fun b => ?_);exact TT (DP Tryz.f48 [.ret [T2 (qg x0.f0 a.f0)],.ret [T2 (qf x0.f1.f0 a.f1.f0)],.ret [T2 (orI ([qg x0.f0 a.f0,qf x0.f1.f0 a.f1.f0]))]] (AD (wH x0.f0 a.f0)<|AD (AE x0.f1.f0 a.f1.f0)<|AV (ψ:=fun k=>E.C k 75 [.one (.s .far () 1 (((([qg x0.f0 a.f0,qf x0.f1.f0 a.f1.f0]).map etI).drop 0).take (([qg x0.f0 a.f0,qf x0.f1.f0 a.f1.f0]).map etI).length))]=some [T2 (orI ([qg x0.f0 a.f0,qf x0.f1.f0 a.f1.f0]))]) (T0 (by simp only[UT,UM]) (HR ([qg x0.f0 a.f0,qf x0.f1.f0 a.f1.f0]) b))<|AN))
noncomputable def ta (a b:GRun):Int:=orI [qg a.f0 b.f0,qf a.f1.f0 b.f1.f0]
theorem OQ (a b:GRun):decide (ta a b≥0)= !ahead a b:=by
 unfold ta ahead qg qf;cases Op.bytesLess a.f0.toList b.f0.toList<;>cases a.f0.toList==b.f0.toList<;>try rfl
 by_cases q:a.f1.f0<b.f1.f0
 ·rw[Uj q];rfl
 ·rw[Uk q];cases decide (a.f1.f0>b.f1.f0)<;>rfl
theorem uq (x0:GRun)(a:GRun):Does E 48 [.agg (GRun.t .far x0),.agg (GRun.t .far a)] [T2 (ta x0 a)]:=by exact C2 x0 a _ (by unfold pp;exact(Ub (show 2≤1050000 by omega)).trans rfl)
inductive Ah where|ret (v2:Bool)|x2 (v3:List Int)
def cf (q0:Kd)(a:List GSession)(b:List GPlan)(c:List GRun)(d e:Int)(v3:List Int)(v4:Int)(f:ByteArray)(g h i:Int)(j:List GState)(v7:Int):US:=stL 102 [(1,.box () [.s .far () 3 (a.map GSession.t),.s .far () 9 (b.map (GPlan.t q0 q0)),.s .far () 5 (c.map (GRun.t q0)),tI d,tI e]),(3,.one (.s .own () 1 (v3.map etI))),(4,T5 v4),(5,.box () [tS f,tI g,tI h,tI i,.s .far () 4 (j.map GState.t)]),(7,T5 v7)]
def fF (q0:Kd)(a:Bool):US:=stL 102 [(2,T6 a)]
def kr (q0:Kd)(a:List GSession)(b:List GPlan)(c:List GRun)(d e v4:Int)(f:List Int):US:=stL 102 [(1,.box () [.s .far () 3 (a.map GSession.t),.s .far () 9 (b.map (GPlan.t q0 q0)),.s .far () 5 (c.map (GRun.t q0)),tI d,tI e]),(3,.one (.s .own () 1 (f.map etI))),(4,T5 v4)]
abbrev eO:US→Exit→US→Prop:=Round E 15 (am Tryz.f15 1)
def mj {q0:Kd}(a:List GSession)(b:List GPlan)(c:List GRun)(d e:Int)(v3:List Int)(v4:Int)(f:ByteArray)(g h i:Int)(j:List GState)(v7:Int):Ah→Prop| .ret k=>Loops E 15 (am Tryz.f15 1) (cf q0 a b c d e v3 v4 f g h i j v7) .ret (fF q0 k)| .x2 l=>Loops E 15 (am Tryz.f15 1) (cf q0 a b c d e v3 v4 f g h i j v7) (.exit 2) (kr q0 a b c d e v4 l)
theorem Fi {q0:Kd}(c:List GSession)(d:List GPlan)(e:List GRun)(f b:Int)(v3:List Int)(v4:Int)(g:ByteArray)(h i j:Int)(a:List GState)(v7:Int)(k:GState)(l:(decide (v7<(a.length:Int)))=true)(m:ak a v7=some k)(n:(decide (k.f2>(0:Int)))=true)(o:(decide (k.f2>b))=true):eO (cf q0 c d e f b v3 v4 g h i j a v7) .ret (fF q0 false):=
 RP [T8 (a.length:Int),.b true,.row (GState.t k),.b true,.b true] (ALn a GState.t<|AC l<|AR GState.t m<|AC n<|AC o<|AN)
theorem Fj {q0:Kd}(d:List GSession)(e:List GPlan)(f:List GRun)(g b:Int)(v3:List Int)(v4:Int)(h:ByteArray)(i j l:Int)(a:List GState)(v7:Int)(c:GState)(m:(decide (v7<(a.length:Int)))=true)(n:ak a v7=some c)(o:(decide (c.f2>(0:Int)))=true)(p:(decide (c.f2>b))=false)(q:v3.length≤1050000)(r:(ce v3 c.f2)=true):eO (cf q0 d e f g b v3 v4 h i j l a v7) .ret (fF q0 false):=
 RP [T8 (a.length:Int),.b true,.row (GState.t c),.b true,.b false,rT] (ALn a GState.t<|AC m<|AR GState.t n<|AC o<|AC p<|AV (ψ:=fun k=>E.C k 39 [.one (.s .far () 1 (((v3.map etI).drop 0).take (v3.map etI).length)),T5 c.f2]=some [T3 true]) (T0 (by simp only[UT,UM]) (TZ (oA v3 c.f2 q) (by rw[r])))<|AN)
theorem Fk {q0:Kd}(d:List GSession)(e:List GPlan)(f:List GRun)(g b:Int)(v3:List Int)(v4:Int)(h:ByteArray)(i j l:Int)(a:List GState)(v7:Int)(c:GState)(n:(decide (v7<(a.length:Int)))=true)(o:ak a v7=some c)(m:(decide (c.f2>(0:Int)))=true)(p:(decide (c.f2>b))=false)(q:v3.length≤1050000)(r:(ce v3 c.f2)=false)(s:(v3.length+([c.f2]).length)*8≤140737488355328∧v3.length+([c.f2]).length≤4611686018427387904):eO (cf q0 d e f g b v3 v4 h i j l a v7) .normal (cf q0 d e f g b (v3++([c.f2])) v4 h i j l a (inc v7)):=
 RP [T8 (a.length:Int),.b true,.row (GState.t c),.b true,.b false,rF,.b true,.rows ((v3++([c.f2])).map etI)] (ALn a GState.t<|AC n<|AR GState.t o<|AC m<|AC p<|AV (ψ:=fun k=>E.C k 39 [.one (.s .far () 1 (((v3.map etI).drop 0).take (v3.map etI).length)),T5 c.f2]=some [T3 false]) (T0 (by simp only[UT,UM]) (TZ (oA v3 c.f2 q) (by rw[r])))<|AC m<|AAp etI (fun _=>rfl) s<|AN)
theorem Fl {q0:Kd}(b:List GSession)(c:List GPlan)(d:List GRun)(e f:Int)(v3:List Int)(v4:Int)(g:ByteArray)(h i j:Int)(a:List GState)(v7:Int)(k:GState)(m:(decide (v7<(a.length:Int)))=true)(n:ak a v7=some k)(l:(decide (k.f2>(0:Int)))=false):eO (cf q0 b c d e f v3 v4 g h i j a v7) .normal (cf q0 b c d e f v3 v4 g h i j a (inc v7)):=
 RP [T8 (a.length:Int),.b true,.row (GState.t k),.b false,.b false] (ALn a GState.t<|AC m<|AR GState.t n<|AC l<|AC l<|AN)
theorem Fm {q0:Kd}(b:List GSession)(c:List GPlan)(d:List GRun)(e f:Int)(v3:List Int)(v4:Int)(g:ByteArray)(h i j:Int)(a:List GState)(v7:Int)(k:(decide (v7<(a.length:Int)))=false):eO (cf q0 b c d e f v3 v4 g h i j a v7) (.exit 2) (kr q0 b c d e f v4 v3):=
 RP [T8 (a.length:Int),.b false] (ALn a GState.t<|AC k<|AN)
noncomputable def dU (a:Int):List GState→Nat→(List Int)→Option Ah|[],i,v3=>some (.x2 v3)|hd::rest,i,v3=>cond (decide (hd.f2>(0:Int))) (cond (decide (hd.f2>a)) (some (.ret false)) (if v3.length≤1050000 then cond (ce v3 hd.f2) (some (.ret false)) (if(v3.length+([hd.f2]).length)*8≤140737488355328∧v3.length+([hd.f2]).length≤4611686018427387904 then dU a rest (i+1) (v3++([hd.f2]))else none)else none)) (dU a rest (i+1) v3)
theorem Ag {q0:Kd}(c:List GSession)(d:List GPlan)(e:List GRun)(f a v4:Int)(g:ByteArray)(j k l:Int)(b:List GState)(rest:List GState):∀(i:Nat)(v3:List Int),(b).drop i=rest→b.length≤9223372036854775807→Ans (dU a rest i v3) (mj (q0:=q0) c d e f a v3 v4 g j k l b (i:Int)):=by
 induction rest with
 |nil =>intro i v3 m o;have hb:=aI m;unfold dU;exact TT (TV (show eO (cf q0 c d e f a v3 v4 g j k l b (i:Int)) (.exit 2) (kr q0 c d e f a v4 v3)from Fm (q0:=q0) c d e f a v3 v4 g j k l b (i:Int) hb) (by intro h;cases h))
 |cons hd rest u =>
  intro i v3 m o;have hb:=aC m;have v:=aD m o;have n:=aq m;have p:=aB m;unfold dU;apply TW<;>intro q
  ·apply TW<;>intro s
   ·exact TT (TV (show eO (cf q0 c d e f a v3 v4 g j k l b (i:Int)) .ret (fF q0 false)from Fi (q0:=q0) c d e f a v3 v4 g j k l b (i:Int) hd hb p q s) (by intro h;cases h))
   ·refine TY (fun w => ?_);apply TW<;>intro x
    ·exact TT (TV (show eO (cf q0 c d e f a v3 v4 g j k l b (i:Int)) .ret (fF q0 false)from Fj (q0:=q0) c d e f a v3 v4 g j k l b (i:Int) hd hb p q s w x) (by intro h;cases h))
    ·refine TY (fun z => ?_);exact(u (i+1) (v3++([hd.f2])) n o).mono fun y t=>by have r:eO (cf q0 c d e f a v3 v4 g j k l b (i:Int)) .normal (cf q0 c d e f a (v3++([hd.f2])) v4 g j k l b (inc (i:Int))):=Fk (q0:=q0) c d e f a v3 v4 g j k l b (i:Int) hd hb p q s w x z;rw[v]at r;cases y<;>exact TU r t
  ·exact(u (i+1) v3 n o).mono fun y t=>by have r:eO (cf q0 c d e f a v3 v4 g j k l b (i:Int)) .normal (cf q0 c d e f a v3 v4 g j k l b (inc (i:Int))):=Fl (q0:=q0) c d e f a v3 v4 g j k l b (i:Int) hd hb p q;rw[v]at r;cases y<;>exact TU r t
inductive ue where|ret (v2:Bool)|x0
def aU (q0:Kd)(a:List GSession)(b:List GPlan)(c:List GRun)(d e:Int)(v3:List Int)(v4:Int):US:=stL 102 [(1,.box () [.s .far () 3 (a.map GSession.t),.s .far () 9 (b.map (GPlan.t q0 q0)),.s .far () 5 (c.map (GRun.t q0)),tI d,tI e]),(3,.one (.s .own () 1 (v3.map etI))),(4,T5 v4)]
def bh (q0:Kd)(a:Bool):US:=stL 102 [(2,T6 a)]
def mU (q0:Kd)(a:List GSession)(b:List GPlan)(c:List GRun)(d e:Int):US:=stL 102 [(1,.box () [.s .far () 3 (a.map GSession.t),.s .far () 9 (b.map (GPlan.t q0 q0)),.s .far () 5 (c.map (GRun.t q0)),tI d,tI e])]
abbrev bo:US→Exit→US→Prop:=Round E 15 (am Tryz.f15 0)
def Ka {q0:Kd}(a:List GSession)(b:List GPlan)(c:List GRun)(d e:Int)(v3:List Int)(v4:Int):ue→Prop| .ret f=>Loops E 15 (am Tryz.f15 0) (aU q0 a b c d e v3 v4) .ret (bh q0 f)| .x0=>Loops E 15 (am Tryz.f15 0) (aU q0 a b c d e v3 v4) (.exit 0) (mU q0 a b c d e)
end
end Go.Proofs.YtoanlngmbcnglaaGreatDoor.Am
