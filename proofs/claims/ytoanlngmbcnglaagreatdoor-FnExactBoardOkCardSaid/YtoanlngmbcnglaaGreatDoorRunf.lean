/- Right runs of a board. -/
import Derived.Test.YtoanlngmbcnglaaGreatDoorRunb
import Derived.Test.YtoanlngmbcnglaaGreatDoorRunc
import Derived.Test.YtoanlngmbcnglaaGreatDoorRund
import Derived.Test.YtoanlngmbcnglaaGreatDoorRune
namespace Go.Proofs.YtoanlngmbcnglaaGreatDoor.Am
open Go
set_option linter.unusedVariables false
set_option linter.unusedSimpArgs false
section
open Go.Proofs Classical
set_option maxRecDepth 100000
noncomputable def dT (d:List GSession)(a:List GPlan)(c:List GRun)(e b:Int):List GRun→Nat→(List Int)→Option ue
 |[],i,v3=>some (.x0)
 |hd::rest,i,v3=>if ac.sm (GBoard.mk d a c e b)then cond (decide ((aF (GBoard.mk d a c e b) hd.f0)<(0:Int)))
  (some (.ret false))
  (cond (decide ((i:Int)>(0:Int)))
   ((ak c (IntKind.wrap .i64 ((i:Int)-(1:Int)))).bind fun g1=>cond (ahead g1 hd)
    ((ak a (aF (GBoard.mk d a c e b) hd.f0)).bind fun h=>if ac.sm h.f0 then if aO h.f0=true then cond (bT h.f0 hd)
     (cond (decide (hd.f1.f0<h.f3))
      (some (.ret false))
      (if hd.f3.length≤9223372036854775807 then(dU b hd.f3 0 v3).bind fun y=>match y with
       | .ret f=>(some (.ret f))
       | .x2 g=>(dT d a c e b rest (i+1) g)else none))
     (some (.ret false))else none else none)
    (some (.ret false)))
   ((ak a (aF (GBoard.mk d a c e b) hd.f0)).bind fun g1=>if ac.sm g1.f0 then if aO g1.f0=true then cond (bT g1.f0 hd)
    (cond (decide (hd.f1.f0<g1.f3))
     (some (.ret false))
     (if hd.f3.length≤9223372036854775807 then(dU b hd.f3 0 v3).bind fun y=>match y with
      | .ret f=>(some (.ret f))
      | .x2 g=>(dT d a c e b rest (i+1) g)else none))
    (some (.ret false))else none else none))else none
theorem J9 {q0:Kd}(b:List GSession)(c:List GPlan)(a:List GRun)(d e:Int)(rest:List GRun):∀(i:Nat)(v3:List Int),(a).drop i=rest→a.length≤9223372036854775807→Ans (dT b c a d e rest i v3) (Ka (q0:=q0) b c a d e v3 (i:Int)):=by
 induction rest with
 |nil =>intro i v3 x A;have hb:=aI x;unfold dT;exact TT (TV (show bo (aU q0 b c a d e v3 (i:Int)) (.exit 0) (mU q0 b c a d e)from DL (q0:=q0) b c a d e v3 (i:Int) hb) (by intro h;cases h))
 |cons hd rest F =>
  intro i v3 x A;have hb:=aC x;have G:=aD x A;have z:=aq x;have l:=aB x;unfold dT;refine TY (fun m => ?_);apply TW<;>intro n
  ·exact TT (TV (show bo (aU q0 b c a d e v3 (i:Int)) .ret (bh q0 false)from E8 (q0:=q0) b c a d e v3 (i:Int) hd hb l m n) (by intro h;cases h))
  ·apply TW<;>intro q
   ·refine TX (fun g1 o => ?_);apply TW<;>intro p
    ·refine TX (fun B s => ?_);refine TY (fun t => ?_);refine TY (fun u => ?_);apply TW<;>intro g
     ·apply TW<;>intro v
      ·exact TT (TV (show bo (aU q0 b c a d e v3 (i:Int)) .ret (bh q0 false)from E9 (q0:=q0) b c a d e v3 (i:Int) hd g1 B hb l m n q o p s t u g v) (by intro h;cases h))
      ·refine TY (fun C => ?_);refine TX (fun y k => ?_);replace k:=Ag (q0:=q0) b c a d e (i:Int) hd.f0 hd.f1.f0 hd.f1.f1 hd.f2 hd.f3 hd.f3 0 v3 rfl C y k;cases y with
       |ret j =>have w:=k;exact TT (TV (show bo (aU q0 b c a d e v3 (i:Int)) .ret (bh q0 j)from Fa (q0:=q0) b c a d e v3 (i:Int) hd g1 B j hb l m n q o p s t u g v w) (by intro h;cases h))
       |x2 f =>have w:=k;exact(F (i+1) f z A).mono fun y k=>by have r:bo (aU q0 b c a d e v3 (i:Int)) .normal (aU q0 b c a d e f (inc (i:Int))):=Fb (q0:=q0) b c a d e v3 (i:Int) hd g1 B f hb l m n q o p s t u g v w;rw[G]at r;cases y<;>exact TU r k
     ·exact TT (TV (show bo (aU q0 b c a d e v3 (i:Int)) .ret (bh q0 false)from Fc (q0:=q0) b c a d e v3 (i:Int) hd g1 B hb l m n q o p s t u g) (by intro h;cases h))
    ·exact TT (TV (show bo (aU q0 b c a d e v3 (i:Int)) .ret (bh q0 false)from Fd (q0:=q0) b c a d e v3 (i:Int) hd g1 hb l m n q o p) (by intro h;cases h))
   ·refine TX (fun g1 o => ?_);refine TY (fun p => ?_);refine TY (fun s => ?_);apply TW<;>intro t
    ·apply TW<;>intro u
     ·exact TT (TV (show bo (aU q0 b c a d e v3 (i:Int)) .ret (bh q0 false)from Fe (q0:=q0) b c a d e v3 (i:Int) hd g1 hb l m n q o p s t u) (by intro h;cases h))
     ·refine TY (fun D => ?_);refine TX (fun y k => ?_);replace k:=Ag (q0:=q0) b c a d e (i:Int) hd.f0 hd.f1.f0 hd.f1.f1 hd.f2 hd.f3 hd.f3 0 v3 rfl D y k;cases y with
      |ret j =>have g:=k;exact TT (TV (show bo (aU q0 b c a d e v3 (i:Int)) .ret (bh q0 j)from Ff (q0:=q0) b c a d e v3 (i:Int) hd g1 j hb l m n q o p s t u g) (by intro h;cases h))
      |x2 f =>have g:=k;exact(F (i+1) f z A).mono fun y k=>by have r:bo (aU q0 b c a d e v3 (i:Int)) .normal (aU q0 b c a d e f (inc (i:Int))):=Fg (q0:=q0) b c a d e v3 (i:Int) hd g1 f hb l m n q o p s t u g;rw[G]at r;cases y<;>exact TU r k
    ·exact TT (TV (show bo (aU q0 b c a d e v3 (i:Int)) .ret (bh q0 false)from Fh (q0:=q0) b c a d e v3 (i:Int) hd g1 hb l m n q o p s t) (by intro h;cases h))
noncomputable def ro (x0:GBoard):Option (Bool):=
  if x0.f2.length≤9223372036854775807 then(dT x0.f0 x0.f1 x0.f2 x0.f3 x0.f4 x0.f2 0 ([])).bind fun y=>match y with
   | .ret a=>(some (a))
   | .x0=>(some (decide ((x0.f2.length:Int)≤(8:Int))))else none
theorem Ma {q0:Kd}(x0:GBoard):Ans (ro x0) (fun r=>Does E 15 [.agg (GBoard.t .far q0 x0)] [T3 r]):=by
 unfold ro;refine TY (fun c => ?_);refine TX (fun y b => ?_);replace b:=J9 (q0:=q0) x0.f0 x0.f1 x0.f2 x0.f3 x0.f4 x0.f2 0 ([]) rfl c y b;cases y with
 |ret a =>have d:=b;exact TT (DP Tryz.f15 [.lp .ret (bh q0 a)] (AL d<|AN))
 |x0 =>have d:=b;exact TT (DP Tryz.f15 [.lp (.exit 0) (mU q0 x0.f0 x0.f1 x0.f2 x0.f3 x0.f4),T8 (x0.f2.length:Int)] (AL d<|ALn x0.f2 (GRun.t q0)<|AN))
inductive Bc where|ret (v2:Bool)|x0
def eI (q0:Kd)(a:List GSession)(b:List GPlan)(c:List GRun)(d e:Int)(v7:List GRun)(v8 v9:Int):US:=stL 61 [(1,.box () [.s .far () 3 (a.map GSession.t),.s .far () 9 (b.map (GPlan.t q0 q0)),.s .far () 5 (c.map (GRun.t q0)),tI d,tI e]),(7,.one (.s .far () 5 (v7.map (GRun.t q0)))),(8,T5 v8),(9,T5 v9)]
def iP (q0:Kd)(a:Bool):US:=stL 61 [(2,T6 a)]
def rV (q0:Kd)(a:List GSession)(b:List GPlan)(c:List GRun)(d e:Int):US:=stL 61 [(1,.box () [.s .far () 3 (a.map GSession.t),.s .far () 9 (b.map (GPlan.t q0 q0)),.s .far () 5 (c.map (GRun.t q0)),tI d,tI e])]
abbrev jT:US→Exit→US→Prop:=Round E 22 (am Tryz.f22 0)
def Lf {q0:Kd}(a:List GSession)(b:List GPlan)(c:List GRun)(d e:Int)(v7:List GRun)(v8 v9:Int):Bc→Prop| .ret f=>Loops E 22 (am Tryz.f22 0) (eI q0 a b c d e v7 v8 v9) .ret (iP q0 f)| .x0=>Loops E 22 (am Tryz.f22 0) (eI q0 a b c d e v7 v8 v9) (.exit 0) (rV q0 a b c d e)
noncomputable def iA (c:List GSession)(a:List GPlan)(b:List GRun)(d e:Int):List GRun→Nat→Option Bc|[],i=>some (.x0)|hd::rest,i=>if ac.sm (GBoard.mk c a b d e)then cond (decide ((aF (GBoard.mk c a b d e) hd.f0)<(0:Int))) (some (.ret false)) ((ak a (aF (GBoard.mk c a b d e) hd.f0)).bind fun g1=>if ac.sm g1.f0 then if aO g1.f0=true then cond (bT g1.f0 hd) (cond (decide (hd.f1.f0<g1.f3)) (some (.ret false)) (cond (decide ((i:Int)>(0:Int))) ((ak b (IntKind.wrap .i64 ((i:Int)-(1:Int)))).bind fun f=>cond (decide ((ta f hd)≥(0:Int))) (some (.ret false)) (iA c a b d e rest (i+1))) (iA c a b d e rest (i+1)))) (some (.ret false))else none else none)else none
theorem Le {q0:Kd}(a:List GSession)(b:List GPlan)(c:List GRun)(d e:Int)(v7:List GRun)(rest:List GRun):∀(i:Nat) ,(v7).drop i=rest→v7.length≤9223372036854775807→Ans (iA a b c d e rest i) (Lf (q0:=q0) a b c d e v7 (v7.length:Int) (i:Int)):=by
 induction rest with
 |nil =>intro i g w;have hb:=aI g;unfold iA;exact TT (TV (show jT (eI q0 a b c d e v7 (v7.length:Int) (i:Int)) (.exit 0) (rV q0 a b c d e)from RP [.b false] (AC hb<|AN)) (by intro h;cases h))
 |cons hd rest B =>
  intro i g w;have hb:=aC g;have D:=aD g w;have o:=aq g;have j:=aB g;unfold iA;refine TY (fun l => ?_);apply TW<;>intro m
  ·exact TT (TV (show jT (eI q0 a b c d e v7 (v7.length:Int) (i:Int)) .ret (iP q0 false)from RP [.b true,.row ((GRun.t q0) hd),.ret [T2 (aF (GBoard.mk a b c d e) hd.f0)],.b true] (AC hb<|AR (GRun.t q0) j<|AV (ψ:=fun k=>E.C k 46 [.agg (GBoard.t .far q0 (GBoard.mk a b c d e)),T7 hd.f0]=some [T2 (aF (GBoard.mk a b c d e) hd.f0)]) (jC (GBoard.mk a b c d e) hd.f0 l)<|AC m<|AN)) (by intro h;cases h))
  ·refine TX (fun g1 f => ?_);refine TY (fun p => ?_);refine TY (fun q => ?_);apply TW<;>intro s
   ·apply TW<;>intro x
    ·exact TT (TV (show jT (eI q0 a b c d e v7 (v7.length:Int) (i:Int)) .ret (iP q0 false)from RP [.b true,.row ((GRun.t q0) hd),.ret [T2 (aF (GBoard.mk a b c d e) hd.f0)],.b false,.row ((GPlan.t q0 q0) g1),rT,.row ((GPlan.t q0 q0) g1),.b true] (AC hb<|AR (GRun.t q0) j<|AV (ψ:=fun k=>E.C k 46 [.agg (GBoard.t .far q0 (GBoard.mk a b c d e)),T7 hd.f0]=some [T2 (aF (GBoard.mk a b c d e) hd.f0)]) (jC (GBoard.mk a b c d e) hd.f0 l)<|AC m<|AR (GPlan.t q0 q0) f<|AV (ψ:=fun k=>E.C k 47 [.agg (GDag.t .far q0 g1.f0),.agg (GRun.t .far hd)]=some [T3 true]) (TZ (ru g1.f0 hd p q) (by rw[s]))<|AR (GPlan.t q0 q0) f<|AC x<|AN)) (by intro h;cases h))
    ·apply TW<;>intro z
     ·refine TX (fun n u => ?_);apply TW<;>intro v
      ·exact TT (TV (show jT (eI q0 a b c d e v7 (v7.length:Int) (i:Int)) .ret (iP q0 false)from RP [.b true,.row ((GRun.t q0) hd),.ret [T2 (aF (GBoard.mk a b c d e) hd.f0)],.b false,.row ((GPlan.t q0 q0) g1),rT,.row ((GPlan.t q0 q0) g1),.b false,.b true,.row ((GRun.t q0) n),.ret [T2 (ta n hd)],.b true] (AC hb<|AR (GRun.t q0) j<|AV (ψ:=fun k=>E.C k 46 [.agg (GBoard.t .far q0 (GBoard.mk a b c d e)),T7 hd.f0]=some [T2 (aF (GBoard.mk a b c d e) hd.f0)]) (jC (GBoard.mk a b c d e) hd.f0 l)<|AC m<|AR (GPlan.t q0 q0) f<|AV (ψ:=fun k=>E.C k 47 [.agg (GDag.t .far q0 g1.f0),.agg (GRun.t .far hd)]=some [T3 true]) (TZ (ru g1.f0 hd p q) (by rw[s]))<|AR (GPlan.t q0 q0) f<|AC x<|AC z<|AR (GRun.t q0) u<|AD (uq n hd)<|AC v<|AN)) (by intro h;cases h))
      ·exact(B (i+1) o w).mono fun y A=>by have r:jT (eI q0 a b c d e v7 (v7.length:Int) (i:Int)) .normal (eI q0 a b c d e v7 (v7.length:Int) (inc (i:Int))):=RP [.b true,.row ((GRun.t q0) hd),.ret [T2 (aF (GBoard.mk a b c d e) hd.f0)],.b false,.row ((GPlan.t q0 q0) g1),rT,.row ((GPlan.t q0 q0) g1),.b false,.b true,.row ((GRun.t q0) n),.ret [T2 (ta n hd)],.b false] (AC hb<|AR (GRun.t q0) j<|AV (ψ:=fun k=>E.C k 46 [.agg (GBoard.t .far q0 (GBoard.mk a b c d e)),T7 hd.f0]=some [T2 (aF (GBoard.mk a b c d e) hd.f0)]) (jC (GBoard.mk a b c d e) hd.f0 l)<|AC m<|AR (GPlan.t q0 q0) f<|AV (ψ:=fun k=>E.C k 47 [.agg (GDag.t .far q0 g1.f0),.agg (GRun.t .far hd)]=some [T3 true]) (TZ (ru g1.f0 hd p q) (by rw[s]))<|AR (GPlan.t q0 q0) f<|AC x<|AC z<|AR (GRun.t q0) u<|AD (uq n hd)<|AC v<|AN);rw[D]at r;cases y<;>exact TU r A
     ·exact(B (i+1) o w).mono fun y A=>by have r:jT (eI q0 a b c d e v7 (v7.length:Int) (i:Int)) .normal (eI q0 a b c d e v7 (v7.length:Int) (inc (i:Int))):=RP [.b true,.row ((GRun.t q0) hd),.ret [T2 (aF (GBoard.mk a b c d e) hd.f0)],.b false,.row ((GPlan.t q0 q0) g1),rT,.row ((GPlan.t q0 q0) g1),.b false,.b false] (AC hb<|AR (GRun.t q0) j<|AV (ψ:=fun k=>E.C k 46 [.agg (GBoard.t .far q0 (GBoard.mk a b c d e)),T7 hd.f0]=some [T2 (aF (GBoard.mk a b c d e) hd.f0)]) (jC (GBoard.mk a b c d e) hd.f0 l)<|AC m<|AR (GPlan.t q0 q0) f<|AV (ψ:=fun k=>E.C k 47 [.agg (GDag.t .far q0 g1.f0),.agg (GRun.t .far hd)]=some [T3 true]) (TZ (ru g1.f0 hd p q) (by rw[s]))<|AR (GPlan.t q0 q0) f<|AC x<|AC z<|AN);rw[D]at r;cases y<;>exact TU r A
   ·exact TT (TV (show jT (eI q0 a b c d e v7 (v7.length:Int) (i:Int)) .ret (iP q0 false)from RP [.b true,.row ((GRun.t q0) hd),.ret [T2 (aF (GBoard.mk a b c d e) hd.f0)],.b false,.row ((GPlan.t q0 q0) g1),rF] (AC hb<|AR (GRun.t q0) j<|AV (ψ:=fun k=>E.C k 46 [.agg (GBoard.t .far q0 (GBoard.mk a b c d e)),T7 hd.f0]=some [T2 (aF (GBoard.mk a b c d e) hd.f0)]) (jC (GBoard.mk a b c d e) hd.f0 l)<|AC m<|AR (GPlan.t q0 q0) f<|AV (ψ:=fun k=>E.C k 47 [.agg (GDag.t .far q0 g1.f0),.agg (GRun.t .far hd)]=some [T3 false]) (TZ (ru g1.f0 hd p q) (by rw[s]))<|AN)) (by intro h;cases h))
noncomputable def sM (x0:GBoard):Option (Bool):=
  if x0.f2.length≤9223372036854775807 then(iA x0.f0 x0.f1 x0.f2 x0.f3 x0.f4 x0.f2 0).bind fun y=>match y with
   | .ret a=>(some (a))
   | .x0=>(some (decide ((x0.f2.length:Int)≤(8:Int))))else none
theorem NI {q0:Kd}(x0:GBoard):Ans (sM x0) (fun r=>Does E 22 [.agg (GBoard.t .far q0 x0)] [T3 r]):=by
 unfold sM;refine TY (fun c => ?_);refine TX (fun y b => ?_);replace b:=Le (q0:=q0) x0.f0 x0.f1 x0.f2 x0.f3 x0.f4 x0.f2 x0.f2 0 rfl c y b;cases y with
 |ret a =>have d:=b;exact TT (DP Tryz.f22 [T8 (x0.f2.length:Int),.lp .ret (iP q0 a)] (ALn x0.f2 (GRun.t q0)<|AL d<|AN))
 |x0 =>have d:=b;exact TT (DP Tryz.f22 [T8 (x0.f2.length:Int),.lp (.exit 0) (rV q0 x0.f0 x0.f1 x0.f2 x0.f3 x0.f4),T8 (x0.f2.length:Int)] (ALn x0.f2 (GRun.t q0)<|AL d<|ALn x0.f2 (GRun.t q0)<|AN))
noncomputable def EJ (b:GBoard)(x:GRun):Bool:=match ak b.f1 (aF b x.f0)with
 |some p=>bT p.f0 x && !decide (x.f1.f0<p.f3)
 |none=>false
noncomputable def ii (b:GBoard):Option GRun→List GRun→Bool
 |_,[]=>true
 |p,x::l=>EJ b x&&((match p with|some y=>ahead y x|none=>true)&&ii b (some x) l)
noncomputable def dS (b:GBoard):Bool:=ii b none b.f2&&decide ((b.f2.length:Int)≤8)
def c9 (l:List GState):List Int:=(l.filter fun x=>x.f0==1).map fun x=>x.f2
def cu (l:List GRun):List Int:=l.flatMap fun r=>c9 r.f3
def dx (t:Int):List Int→List Int→Bool|_,[]=>true|v,x::l => !decide (x>t)&&(!ce v x&&dx t (v++[x]) l)
noncomputable def wv (b:GBoard):Bool:=dS b&&dx b.f4 [] (cu b.f2)
theorem wB (t:Int):∀(a:List Int)(v c:List Int),dx t v (a++c)=(dx t v a&&dx t (v++a) c)
 |[],v,c=>by rw[UF];rfl
 |x::a,v,c=>by
  have e:∀l,dx t v (x::l)=(!decide (x>t)&&(!ce v x&&dx t (v++[x]) l)):=fun _=>rfl
  rw[Ww,e,e,wB t a,VU,VL];cases decide (x>t)<;>cases ce v x<;>rfl
theorem vw {b:GBoard}(hb:ac.sm b)(c:bH b.f1=true){p:GPlan}(h:p∈b.f1):ac.sm p.f0∧aO p.f0=true:=by
 refine⟨hb.2.1.2 p h,?_⟩;unfold bH at c;rw[Ux]at c;have d:∀(l:List GPlan)(q:Option GPlan),fQ q l=true→∀y∈l,aO y.f0=true:=by
  intro l;induction l with
  |nil=>intro q _ y hy;cases hy
  |cons x l e =>
   intro q a y hy;unfold fQ JC at a;simp only[Ux]at a;rcases UE.1 hy with rfl|hy
   ·exact a.1.1
   ·exact e _ a.2.2 y hy
 exact d _ _ c.1 p h
theorem zX {d:GDag}{r:GRun}:∀(l:List GState)(i:Nat),gt d r l i=true→∀k,i≤k→k<i+l.length→lA d r (k:Int)=true
 |[],i,_,k,b,a=>by simp at a;omega
 |x::l,i,h,k,b,a=>by
  unfold gt at h;rw[Ux]at h;rcases Nat.eq_or_lt_of_le b with rfl|q
  ·exact h.1
  ·exact zX l (i+1) h.2 k (by omega) (by simp at a;omega)
theorem Br {d:GDag}{r:GRun}(h:bT d r=true)(hd:aO d=true):r.f3.length≤4∧∀x∈r.f3,decide (x.f2>0)=(x.f0==1):=by
 have g:=JN h;have i:=(tz hd).1;refine⟨by omega,fun x b => ?_⟩;unfold bT at h;simp only[Ux]at h;obtain⟨k,c,rfl⟩:=WV b;have a:=zX _ 0 h.2.2.2.2 k (by omega) (by omega);unfold lA at a;have e:ak r.f3 (k:Int)=some r.f3[k]:=by rw[ct];exact Ug c
 obtain⟨t,f,_⟩:=gU (l:=d.f5) (k:=(k:Int)) (by omega);rw[e,f]at a;replace a:Fp r.f3[k] (inc t.f2) (bO d r (k:Int)).1 (ck d r (k:Int)).2=true:=a;unfold Fp at a;simp only[Ux]at a;exact eq_of_beq a.2.2.2.1
theorem Kp (t:Int):∀(rest:List GState)(i:Nat)(v:List Int),v.length+rest.length≤1050000→(∀x∈rest,decide (x.f2>0)=(x.f0==1)) →
  dU t rest i v=some (cond (dx t v (c9 rest)) (.x2 (v++c9 rest)) (.ret false))
 |[],i,v,_,_=>by have e:c9 []=[]:=rfl;unfold dU;rw[e,UF];rfl
 |x::rest,i,v,b,h=>by
  simp only[UK]at b;have c:=h x (by simp);unfold dU;rw[c];cases q:x.f0==1 with
  |false =>
   have e:c9 (x::rest)=c9 rest:=by unfold c9;rw[WE (by rw[q];exact Vk)]
   rw[e];exact Kp t rest (i+1) v (by omega) fun y a=>h y (by simp[a])
  |true =>
   have e:c9 (x::rest)=x.f2::c9 rest:=by unfold c9;rw[WD (by rw[q]),Uv]
   have d:=Kp t rest (i+1) (v++[x.f2]) (by rw[V3,V2];omega) fun y a=>h y (by simp[a])
   rw[e];unfold dx;rw[d,Ub (by omega),Ub (by rw[V2];omega),VU,VL];cases decide (x.f2>t)<;>cases ce v x.f2<;>rfl
theorem Ch (l:List GState):(c9 l).length≤l.length:=by unfold c9;rw[UH];exact List.length_filter_le _ _
theorem JP (b:GBoard)(hb:ac.sm b)(s:bH b.f1=true):∀(rest:List GRun)(i:Nat),b.f2.drop i=rest →
  iA b.f0 b.f1 b.f2 b.f3 b.f4 rest i=some (cond (ii b (ga b.f2 i) rest) .x0 (.ret false)) ∧
  ∀v:List Int,v.length+4*rest.length≤1000000→dT b.f0 b.f1 b.f2 b.f3 b.f4 rest i v=some (cond (ii b (ga b.f2 i) rest&&dx b.f4 v (cu rest)) .x0 (.ret false))
 |[],i,_=>⟨rfl,fun v _=>rfl⟩
 |x::rest,i,h=>by
  obtain⟨a,d⟩:=JP b hb s rest (i+1) (aq h);rw[vx h]at a d;have c:GBoard.mk b.f0 b.f1 b.f2 b.f3 b.f4=b:=rfl;obtain⟨-, -,C,D⟩:=wt b x.f0 hb.2.1.1;unfold iA ii EJ;by_cases q:aF b x.f0<0
  ·have u:ak b.f1 (aF b x.f0)=none:=by unfold ak;rw[Un (by omega)]
   simp only[c,Ub hb,Uj q,Uo,u,Wv];refine⟨rfl,fun v _ => ?_⟩;unfold dT;simp only[c,Ub hb,Uj q,Uo];rfl
  ·obtain⟨g,n,w⟩:=gU (l:=b.f1) (k:=aF b x.f0) (by omega);obtain⟨hs,hd⟩:=vw hb s w;have o:decide (aF b x.f0<0)=false:=Uk q;have f:∀v:List Int,v.length+4*(x::rest).length≤1000000→bT g.f0 x=true→((if x.f3.length≤9223372036854775807 then(dU b.f4 x.f3 0 v).bind fun y=>match y with
      | .ret j=>(some (.ret j))
      | .x2 m=>(dT b.f0 b.f1 b.f2 b.f3 b.f4 rest (i+1) m)else none):Option ue)=some (cond (ii b (some x) rest&&dx b.f4 v (cu (x::rest))) .x0 (.ret false)):=fun v hv z=>by
    simp only[UK]at hv;obtain⟨F,A⟩:=Br z hd;have:=Ch x.f3;have e:cu (x::rest)=c9 x.f3++cu rest:=by unfold cu;rw[UA]
    rw[Ub (by omega),Kp b.f4 x.f3 0 v (by omega) A,e,wB];cases dx b.f4 v (c9 x.f3)with
    |false=>cases ii b (some x) rest<;>rfl
    |true=>exact(d (v++c9 x.f3) (by rw[V3];omega)).trans (by cases ii b (some x) rest<;>rfl)
   by_cases hi:0<i
   ·obtain⟨y,B,t⟩:=xt h hi hb.2.2.1;have hc:decide ((i:Int)>0)=true:=Uj (by omega);rw[B];simp only[c,Ub hb,o,Uu,n,Ua,Ub hs,Ub hd,hc,Uo,t,OQ,a];refine⟨?_,fun v hv => ?_⟩
    ·cases bT g.f0 x<;>cases decide (x.f1.f0<g.f3)<;>cases ahead y x<;>rfl
    ·unfold dT;simp only[c,Ub hb,o,Uu,n,Ua,Ub hs,Ub hd,hc,Uo,t];cases p:bT g.f0 x with
     |false=>cases ahead y x<;>rfl
     |true =>
      have hh:=f v hv p;cases ahead y x with
      |false=>cases decide (x.f1.f0<g.f3)<;>rfl
      |true =>
       cases decide (x.f1.f0<g.f3)with
       |true=>rfl
       |false=>exact hh
   ·have hz:i=0:=by omega
    subst hz;have hc:decide (((0:Nat):Int)>0)=false:=rfl;have r:ga b.f2 0=none:=rfl;rw[r];simp only[c,Ub hb,o,Uu,n,Ua,Ub hs,Ub hd,hc,a];refine⟨?_,fun v hv => ?_⟩
    ·cases bT g.f0 x<;>cases decide (x.f1.f0<g.f3)<;>rfl
    ·unfold dT;simp only[c,Ub hb,o,Uu,n,Ua,Ub hs,Ub hd,hc];cases p:bT g.f0 x with
     |false=>rfl
     |true =>
      have hh:=f v hv p;cases decide (x.f1.f0<g.f3)with
      |true=>rfl
      |false=>exact hh
theorem Oc (b:GBoard)(hb:ac.sm b)(d:bH b.f1=true):sM b=some (dS b):=by obtain⟨c, -⟩:=JP b hb d b.f2 0 rfl;have a:ga b.f2 0=none:=rfl;rw[a]at c;unfold sM dS;rw[Ub (bI hb.2.2),c];cases ii b none b.f2<;>rfl
theorem PZ (b:GBoard)(hb:ac.sm b)(d:bH b.f1=true)(f:b.f2.length≤8):ro b=some (wv b):=by obtain⟨-,e⟩:=JP b hb d b.f2 0 rfl;have c:=e [] (by rw[Wy];omega);have a:ga b.f2 0=none:=rfl;rw[a]at c;unfold ro wv dS;rw[Ub (bI hb.2.2),c];cases ii b none b.f2<;>cases dx b.f4 [] (cu b.f2)<;>cases decide ((b.f2.length:Int)≤8)<;>rfl
theorem qU {q0:Kd}(x0:GBoard)(h:ac.sm x0)(a:bH x0.f1=true)(b:x0.f2.length≤8):Does E 15 [.agg (GBoard.t .far q0 x0)] [T3 (wv x0)]:=by exact Ma x0 _ (PZ x0 h a b)
theorem oQ {q0:Kd}(x0:GBoard)(h:ac.sm x0)(a:bH x0.f1=true):Does E 22 [.agg (GBoard.t .far q0 x0)] [T3 (dS x0)]:=by exact NI x0 _ (Oc x0 h a)
inductive xX where|x2 (v3:List Int)
def jq (q0:Kd)(v3:List Int)(v9:List GRun)(v10 v11:Int)(v16:List GState)(a b:Int):US:=stL 33 [(3,.one (.s .own () 1 (v3.map etI))),(9,.one (.s .far () 5 (v9.map (GRun.t q0)))),(10,T5 v10),(11,T5 v11),(16,.one (.s .far () 4 (v16.map GState.t))),(17,T5 a),(18,T5 b)]
def pv (q0:Kd)(v9:List GRun)(v10 v11:Int)(a:List Int):US:=stL 33 [(3,.one (.s .own () 1 (a.map etI))),(9,.one (.s .far () 5 (v9.map (GRun.t q0)))),(10,T5 v10),(11,T5 v11)]
abbrev rX:US→Exit→US→Prop:=Round E 49 (am Tryz.f49 1)
def GE {q0:Kd}(v3:List Int)(v9:List GRun)(v10 v11:Int)(v16:List GState)(a b:Int):xX→Prop| .x2 c=>Loops E 49 (am Tryz.f49 1) (jq q0 v3 v9 v10 v11 v16 a b) (.exit 2) (pv q0 v9 v10 v11 c)
noncomputable def eR  : List GState→Nat→(List Int)→Option xX|[],i,v3=>some (.x2 v3)|hd::rest,i,v3=>cond (hd.f0==(1:Int)) (if(v3.length+([hd.f2]).length)*8≤140737488355328∧v3.length+([hd.f2]).length≤4611686018427387904 then eR rest (i+1) (v3++([hd.f2]))else none) (eR rest (i+1) v3)
theorem GC {q0:Kd}(v9:List GRun)(v10 v11:Int)(v16:List GState)(rest:List GState):∀(i:Nat)(v3:List Int),(v16).drop i=rest→v16.length≤9223372036854775807→Ans (eR rest i v3) (GE (q0:=q0) v3 v9 v10 v11 v16 (v16.length:Int) (i:Int)):=by
 induction rest with
 |nil =>intro i v3 a c;have hb:=aI a;unfold eR;exact TT (TV (show rX (jq q0 v3 v9 v10 v11 v16 (v16.length:Int) (i:Int)) (.exit 2) (pv q0 v9 v10 v11 v3)from RP [.b false] (AC hb<|AN)) (by intro h;cases h))
 |cons hd rest e =>
  intro i v3 a c;have hb:=aC a;have f:=aD a c;have b:=aq a;have g:=aB a;unfold eR;apply TW<;>intro j
  ·refine TY (fun k => ?_);exact(e (i+1) (v3++([hd.f2])) b c).mono fun y d=>by have r:rX (jq q0 v3 v9 v10 v11 v16 (v16.length:Int) (i:Int)) .normal (jq q0 (v3++([hd.f2])) v9 v10 v11 v16 (v16.length:Int) (inc (i:Int))):=RP [.b true,.row (GState.t hd),.b true,.rows ((v3++([hd.f2])).map etI)] (AC hb<|AR GState.t g<|AC j<|AAp etI (fun _=>rfl) k<|AN);rw[f]at r;cases y<;>exact TU r d
  ·exact(e (i+1) v3 b c).mono fun y d=>by have r:rX (jq q0 v3 v9 v10 v11 v16 (v16.length:Int) (i:Int)) .normal (jq q0 v3 v9 v10 v11 v16 (v16.length:Int) (inc (i:Int))):=RP [.b true,.row (GState.t hd),.b false] (AC hb<|AR GState.t g<|AC j<|AN);rw[f]at r;cases y<;>exact TU r d
inductive xW where|x0 (v3:List Int)
def nN (q0:Kd)(v3:List Int)(v9:List GRun)(v10 v11:Int):US:=stL 33 [(3,.one (.s .own () 1 (v3.map etI))),(9,.one (.s .far () 5 (v9.map (GRun.t q0)))),(10,T5 v10),(11,T5 v11)]
def pu (q0:Kd)(a:List Int):US:=stL 33 [(3,.one (.s .own () 1 (a.map etI)))]
abbrev xV:US→Exit→US→Prop:=Round E 49 (am Tryz.f49 0)
def GD {q0:Kd}(v3:List Int)(v9:List GRun)(v10 v11:Int):xW→Prop| .x0 a=>Loops E 49 (am Tryz.f49 0) (nN q0 v3 v9 v10 v11) (.exit 0) (pu q0 a)
noncomputable def fM  : List GRun→Nat→(List Int)→Option xW
 |[],i,v3=>some (.x0 v3)
 |hd::rest,i,v3=>if hd.f3.length≤9223372036854775807 then(eR hd.f3 0 v3).bind fun y=>match y with
  | .x2 a=>(fM rest (i+1) a)else none
theorem GB {q0:Kd}(v9:List GRun)(rest:List GRun):∀(i:Nat)(v3:List Int),(v9).drop i=rest→v9.length≤9223372036854775807→Ans (fM rest i v3) (GD (q0:=q0) v3 v9 (v9.length:Int) (i:Int)):=by
 induction rest with
 |nil =>intro i v3 b d;have hb:=aI b;unfold fM;exact TT (TV (show xV (nN q0 v3 v9 (v9.length:Int) (i:Int)) (.exit 0) (pu q0 v3)from RP [.b false] (AC hb<|AN)) (by intro h;cases h))
 |cons hd rest g =>
  intro i v3 b d;have hb:=aC b;have j:=aD b d;have e:=aq b;have k:=aB b;unfold fM;refine TY (fun f => ?_);refine TX (fun y c => ?_);replace c:=GC (q0:=q0) v9 (v9.length:Int) (i:Int) hd.f3 hd.f3 0 v3 rfl f y c;cases y with
  |x2 a =>have l:=c;exact(g (i+1) a e d).mono fun y c=>by have r:xV (nN q0 v3 v9 (v9.length:Int) (i:Int)) .normal (nN q0 a v9 (v9.length:Int) (inc (i:Int))):=RP [.b true,.row ((GRun.t q0) hd),T8 (hd.f3.length:Int),.lp (.exit 2) (pv q0 v9 (v9.length:Int) (i:Int) a)] (AC hb<|AR (GRun.t q0) k<|ALn hd.f3 GState.t<|AL l<|AN);rw[j]at r;cases y<;>exact TU r c
noncomputable def px (x0:GBoard):Option ((List Int)):=
  if x0.f2.length≤9223372036854775807 then(fM x0.f2 0 ([])).bind fun y=>match y with
   | .x0 a=>(some (a))else none
theorem IS {q0:Kd}(x0:GBoard):Ans (px x0) (fun r=>Does E 49 [.agg (GBoard.t .far q0 x0)] [(false,[.s .own () 1 (r.map etI)])]):=by
 unfold px;refine TY (fun b => ?_);refine TX (fun y c => ?_);replace c:=GB (q0:=q0) x0.f2 x0.f2 0 ([]) rfl b y c;cases y with
 |x0 a =>have d:=c;exact TT (DP Tryz.f49 [T8 (x0.f2.length:Int),.lp (.exit 0) (pu q0 a)] (ALn x0.f2 (GRun.t q0)<|AL d<|AN))
noncomputable def df (b:GBoard):List Int:=cu b.f2
theorem Cg:∀(rest:List GState)(i:Nat)(v:List Int),v.length+rest.length≤10000000000000→eR rest i v=some (.x2 (v++c9 rest))
 |[],i,v,_=>by have e:c9 []=[]:=rfl;unfold eR;rw[e,UF]
 |x::rest,i,v,a=>by
  simp only[UK]at a;unfold eR;cases q:x.f0==1 with
  |false =>
   have e:c9 (x::rest)=c9 rest:=by unfold c9;rw[WE (by rw[q];exact Vk)]
   rw[e];exact Cg rest (i+1) v (by omega)
  |true =>
   have e:c9 (x::rest)=x.f2::c9 rest:=by unfold c9;rw[WD (by rw[q]),Uv]
   have b:=Cg rest (i+1) (v++[x.f2]) (by rw[V3,V2];omega);rw[e,Uo,Ub (by rw[V2];omega),b,VU,VL]
theorem FG:∀(rest:List GRun)(i:Nat)(v:List Int),(∀y∈rest,ac.sm y)→v.length+rest.length*1050000≤9000000000000→fM rest i v=some (.x0 (v++cu rest))
 |[],i,v,_,_=>by have e:cu []=[]:=rfl;unfold fM;rw[e,UF]
 |x::rest,i,v,h,a=>by
  simp only[UK]at a;have c:=(h x (by simp)).2.2.1;have:=Ch x.f3;have e:cu (x::rest)=c9 x.f3++cu rest:=by unfold cu;rw[UA]
  unfold fM;rw[Ub (by omega),Cg x.f3 0 v (by omega),e, ←VU];exact FG rest (i+1) (v++c9 x.f3) (fun y b=>h y (by simp[b])) (by rw[V3];omega)
theorem Oy (b:GBoard)(hb:ac.sm b):px b=some (df b):=by have:=hb.2.2.1;unfold px df;rw[Ub (by omega),FG b.f2 0 [] hb.2.2.2 (by rw[Wy];omega)];rfl
theorem yI {q0:Kd}(x0:GBoard)(h:ac.sm x0):Does E 49 [.agg (GBoard.t .far q0 x0)] [(false,[.s .own () 1 ((df x0).map etI)])]:=by exact IS x0 _ (Oy x0 h)
inductive xY where|ret (v2:Bool)|x0
def ib (q0:Kd)(a:List GSession)(b:List GPlan)(c:List GRun)(d e:Int)(v3:List Int)(v9 v10:Int):US:=stL 30 [(1,.box () [.s .far () 3 (a.map GSession.t),.s .far () 9 (b.map (GPlan.t q0 q0)),.s .far () 5 (c.map (GRun.t q0)),tI d,tI e]),(3,.one (.s .own () 1 (v3.map etI))),(8,.al 3 0 [] 0 (v3.map etI).length),(9,T5 v9),(10,T5 v10)]
def kM (q0:Kd)(a:Bool):US:=stL 30 [(2,T6 a)]
def py (q0:Kd)(a:List GSession)(b:List GPlan)(c:List GRun)(d e:Int):US:=stL 30 [(1,.box () [.s .far () 3 (a.map GSession.t),.s .far () 9 (b.map (GPlan.t q0 q0)),.s .far () 5 (c.map (GRun.t q0)),tI d,tI e])]
abbrev nO:US→Exit→US→Prop:=Round E 23 (am Tryz.f23 0)
def GG {q0:Kd}(a:List GSession)(b:List GPlan)(c:List GRun)(d e:Int)(v3:List Int)(v9 v10:Int):xY→Prop| .ret f=>Loops E 23 (am Tryz.f23 0) (ib q0 a b c d e v3 v9 v10) .ret (kM q0 f)| .x0=>Loops E 23 (am Tryz.f23 0) (ib q0 a b c d e v3 v9 v10) (.exit 0) (py q0 a b c d e)
noncomputable def ic (a:Int)(v3:List Int):List Int→Nat→Option xY|[],i=>some (.x0)|hd::rest,i=>cond (decide (hd>a)) (some (.ret false)) (if 0≤(0:Int)∧(0:Int)≤(i:Int)∧(i:Int)≤(v3.length:Int)then if((v3.drop (0:Int).toNat).take ((i:Int).toNat-(0:Int).toNat)).length≤1050000 then cond (ce ((v3.drop (0:Int).toNat).take ((i:Int).toNat-(0:Int).toNat)) hd) (some (.ret false)) (ic a v3 rest (i+1))else none else none)
theorem GF {q0:Kd}(b:List GSession)(c:List GPlan)(d:List GRun)(e a:Int)(v3:List Int)(rest:List Int):∀(i:Nat) ,(v3).drop i=rest→v3.length≤9223372036854775807→Ans (ic a v3 rest i) (GG (q0:=q0) b c d e a v3 (v3.length:Int) (i:Int)):=by
 induction rest with
 |nil =>intro i f g;have hb:=aI f;unfold ic;exact TT (TV (show nO (ib q0 b c d e a v3 (v3.length:Int) (i:Int)) (.exit 0) (py q0 b c d e a)from RP [.b false] (AC hb<|AN)) (by intro h;cases h))
 |cons hd rest s =>
  intro i f g;have hb:=aC f;have t:=aD f g;have j:=aq f;have l:=aB f;unfold ic;apply TW<;>intro m
  ·exact TT (TV (show nO (ib q0 b c d e a v3 (v3.length:Int) (i:Int)) .ret (kM q0 false)from RP [.b true,.row (etI hd),.b true] (AC hb<|AG etI l<|AC m<|AN)) (by intro h;cases h))
  ·refine TY (fun n => ?_);refine TY (fun o => ?_);apply TW<;>intro q
   ·exact TT (TV (show nO (ib q0 b c d e a v3 (v3.length:Int) (i:Int)) .ret (kM q0 false)from RP [.b true,.row (etI hd),.b false,rT] (AC hb<|AG etI l<|AC m<|AC (p:=0≤(0:Int)∧(0:Int)≤(i:Int)∧(i:Int)≤((v3.map etI).length:Int)) (Fo n)<|AV (ψ:=fun k=>E.C k 50 [.one (.s .far () 1 (((v3.map etI).drop (0+(0:Int).toNat)).take ((i:Int).toNat-(0:Int).toNat))),T5 hd]=some [T3 true]) (T0 (by simp only[Nat.zero_add,Ra,UT,UM]) (TZ (dL ((v3.drop (0:Int).toNat).take ((i:Int).toNat-(0:Int).toNat)) hd o) (by rw[q])))<|AN)) (by intro h;cases h))
   ·exact(s (i+1) j g).mono fun y u=>by have r:nO (ib q0 b c d e a v3 (v3.length:Int) (i:Int)) .normal (ib q0 b c d e a v3 (v3.length:Int) (inc (i:Int))):=RP [.b true,.row (etI hd),.b false,rF] (AC hb<|AG etI l<|AC m<|AC (p:=0≤(0:Int)∧(0:Int)≤(i:Int)∧(i:Int)≤((v3.map etI).length:Int)) (Fo n)<|AV (ψ:=fun k=>E.C k 50 [.one (.s .far () 1 (((v3.map etI).drop (0+(0:Int).toNat)).take ((i:Int).toNat-(0:Int).toNat))),T5 hd]=some [T3 false]) (T0 (by simp only[Nat.zero_add,Ra,UT,UM]) (TZ (dL ((v3.drop (0:Int).toNat).take ((i:Int).toNat-(0:Int).toNat)) hd o) (by rw[q])))<|AN);rw[t]at r;cases y<;>exact TU r u
noncomputable def pz (x0:GBoard):Option (Bool):=
  if ac.sm x0 then if(df x0).length≤9223372036854775807 then(ic x0.f4 (df x0) (df x0) 0).bind fun y=>match y with
   | .ret a=>(some (a))
   | .x0=>(some (ae x0.f4 0 999999991))else none else none
theorem IV {q0:Kd}(x0:GBoard):Ans (pz x0) (fun r=>Does E 23 [.agg (GBoard.t .far q0 x0)] [T3 r]):=by
 unfold pz;refine TY (fun e => ?_);refine TY (fun c => ?_);refine TX (fun y b => ?_);replace b:=GF (q0:=q0) x0.f0 x0.f1 x0.f2 x0.f3 x0.f4 (df x0) (df x0) 0 rfl c y b;cases y with
 |ret a =>have d:=b;exact TT (DP Tryz.f23 [.ret [(false,[.s .own () 1 ((df x0).map etI)])],T8 ((df x0).length:Int),.lp .ret (kM q0 a)] (AV (ψ:=fun k=>E.C k 49 [.agg (GBoard.t .far q0 x0)]=some [(false,[.s .own () 1 ((df x0).map etI)])]) (yI x0 e)<|ALn (df x0) etI<|AL d<|AN))
 |x0 =>have d:=b;exact TT (DP Tryz.f23 [.ret [(false,[.s .own () 1 ((df x0).map etI)])],T8 ((df x0).length:Int),.lp (.exit 0) (py q0 x0.f0 x0.f1 x0.f2 x0.f3 x0.f4),.ret [T3 (ae x0.f4 0 999999991)]] (AV (ψ:=fun k=>E.C k 49 [.agg (GBoard.t .far q0 x0)]=some [(false,[.s .own () 1 ((df x0).map etI)])]) (yI x0 e)<|ALn (df x0) etI<|AL d<|AD (an x0.f4 0 (999999991:Int))<|AN))
noncomputable def oy (b:GBoard):Bool:=dx b.f4 [] (cu b.f2)&&ae b.f4 0 999999991
theorem Rg (b:GBoard)(hb:ac.sm b)(h:bH b.f1=true)(d:dS b=true):(cu b.f2).length≤1000:=by
 unfold dS at d;rw[Ux,U7]at d;have i:∀(l:List GRun)(q:Option GRun),ii b q l=true→(cu l).length≤4*l.length:=by
  intro l;induction l with
  |nil=>intro q _;simp[cu]
  |cons x l j =>
   intro q c;unfold ii at c;simp only[Ux]at c;have i2:=j _ c.2.2;have e:cu (x::l)=c9 x.f3++cu l:=by unfold cu;rw[UA]
   have a:=c.1;unfold EJ at a;have k:=Ch x.f3;cases f:ak b.f1 (aF b x.f0)with
   |none=>rw[f]at a;cases a
   |some g =>rw[f]at a;replace a:(bT g.f0 x && !decide (x.f1.f0<g.f3))=true:=a;rw[Ux]at a;obtain⟨-,hd⟩:=vw hb h (Ue (oI f).2);have m:=(Br a.1 hd).1;rw[e,V3,UK];omega
 have:=i _ _ d.1;omega
theorem Ko (t:Int)(ay:List Int)(c:ay.length≤1050000):∀(rest:List Int)(i:Nat),ay.drop i=rest→ic t ay rest i=some (cond (dx t (ay.take i) rest) .x0 (.ret false))
 |[],i,_=>rfl
 |x::rest,i,h=>by
  have d:=l3 h;have b:=Ko t ay c rest (i+1) (aq h);have f:ay[i]?=some x:=by have:=aB h;rw[ct]at this;exact this
  have e:ay.take (i+1)=ay.take i++[x]:=by rw[W9,f];rfl
  have g:(ay.drop (0:Int).toNat).take ((i:Int).toNat-(0:Int).toNat)=ay.take i:=by simp
  rw[e]at b;unfold ic dx;rw[g,b,Ub (by omega)];have a:(ay.take i).length≤1050000:=by rw[List.length_take];omega
  first
   |(rw[Ub a];cases decide (x>t)<;>cases ce (ay.take i) x<;>rfl)
   |(cases decide (x>t)<;>cases ce (ay.take i) x<;>rfl)
theorem Oz (b:GBoard)(hb:ac.sm b)(a:bH b.f1=true)(c:dS b=true):pz b=some (oy b):=by have e:(df b).length≤1000:=Rg b hb a c;have d:=Ko b.f4 (df b) (by omega) (df b) 0 rfl;unfold pz oy;rw[Ub hb,Ub (by omega),d,List.take_zero];show Option.bind (some (cond (dx b.f4 [] (cu b.f2)) _ _)) _=_;cases dx b.f4 [] (cu b.f2)<;>rfl
theorem oS {q0:Kd}(x0:GBoard)(h:ac.sm x0)(a:bH x0.f1=true)(b:dS x0=true):Does E 23 [.agg (GBoard.t .far q0 x0)] [T3 (oy x0)]:=by exact IV x0 _ (Oz x0 h a b)
end
end Go.Proofs.YtoanlngmbcnglaaGreatDoor.Am
