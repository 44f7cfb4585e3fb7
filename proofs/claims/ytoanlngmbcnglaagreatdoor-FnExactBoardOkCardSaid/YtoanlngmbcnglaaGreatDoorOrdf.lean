/- Right sessions and plans. -/
import Derived.Test.YtoanlngmbcnglaaGreatDoorOrdb
import Derived.Test.YtoanlngmbcnglaaGreatDoorOrdc
import Derived.Test.YtoanlngmbcnglaaGreatDoorOrdd
import Derived.Test.YtoanlngmbcnglaaGreatDoorOrde
namespace Go.Proofs.YtoanlngmbcnglaaGreatDoor.Am
open Go
set_option linter.unusedVariables false
set_option linter.unusedSimpArgs false
section
open Go.Proofs Classical
set_option maxRecDepth 100000
noncomputable def fW (b:List GSession)(a:List GPlan)(c:List GRun)(d e:Int):List GPlan→Nat→Option yr|[],i=>some (.x0)|hd::rest,i=>if ac.sm hd.f0 then cond (aO hd.f0) (cond (decide ((i:Int)>(0:Int))) ((ak a (IntKind.wrap .i64 ((i:Int)-(1:Int)))).bind fun g1=>cond (!Op.bytesLess g1.f0.f0.toList hd.f0.f0.toList) (some (.ret false)) (cond (ae hd.f2 hd.f0.f2 68374080) (cond (ae hd.f3 hd.f0.f2 68374079) (if ac.sm (GBoard.mk b a c d e)then cond (decide ((bE (GBoard.mk b a c d e) hd.f0.f0)>(2:Int))) (some (.ret false)) (fW b a c d e rest (i+1))else none) (some (.ret false))) (some (.ret false)))) (cond (ae hd.f2 hd.f0.f2 68374080) (cond (ae hd.f3 hd.f0.f2 68374079) (if ac.sm (GBoard.mk b a c d e)then cond (decide ((bE (GBoard.mk b a c d e) hd.f0.f0)>(2:Int))) (some (.ret false)) (fW b a c d e rest (i+1))else none) (some (.ret false))) (some (.ret false)))) (some (.ret false))else none
theorem Hv {q0:Kd}(b:List GSession)(a:List GPlan)(c:List GRun)(d e:Int)(rest:List GPlan):∀(i:Nat) ,(a).drop i=rest→a.length≤9223372036854775807→Ans (fW b a c d e rest i) (Hw (q0:=q0) b a c d e (i:Int)):=by
 induction rest with
 |nil =>intro i o t;have hb:=aI o;unfold fW;exact TT (TV (show bf (aP q0 b a c d e (i:Int)) (.exit 0) (lP q0 b a c d e)from Cb (q0:=q0) b a c d e (i:Int) hb) (by intro h;cases h))
 |cons hd rest v =>
  intro i o t;have hb:=aC o;have w:=aD o t;have q:=aq o;have f:=aB o;unfold fW;refine TY (fun g => ?_);apply TW<;>intro j
  ·apply TW<;>intro l
   ·refine TX (fun g1 k => ?_);apply TW<;>intro m
    ·exact TT (TV (show bf (aP q0 b a c d e (i:Int)) .ret (a7 q0 false)from DB (q0:=q0) b a c d e (i:Int) hd g1 hb f g j l k m) (by intro h;cases h))
    ·apply TW<;>intro n
     ·apply TW<;>intro p
      ·refine TY (fun x => ?_);apply TW<;>intro s
       ·exact TT (TV (show bf (aP q0 b a c d e (i:Int)) .ret (a7 q0 false)from DC (q0:=q0) b a c d e (i:Int) hd g1 hb f g j l k m n p x s) (by intro h;cases h))
       ·exact(v (i+1) q t).mono fun y u=>by have r:bf (aP q0 b a c d e (i:Int)) .normal (aP q0 b a c d e (inc (i:Int))):=DD (q0:=q0) b a c d e (i:Int) hd g1 hb f g j l k m n p x s;rw[w]at r;cases y<;>exact TU r u
      ·exact TT (TV (show bf (aP q0 b a c d e (i:Int)) .ret (a7 q0 false)from DE (q0:=q0) b a c d e (i:Int) hd g1 hb f g j l k m n p) (by intro h;cases h))
     ·exact TT (TV (show bf (aP q0 b a c d e (i:Int)) .ret (a7 q0 false)from DF (q0:=q0) b a c d e (i:Int) hd g1 hb f g j l k m n) (by intro h;cases h))
   ·apply TW<;>intro k
    ·apply TW<;>intro m
     ·refine TY (fun n => ?_);apply TW<;>intro p
      ·exact TT (TV (show bf (aP q0 b a c d e (i:Int)) .ret (a7 q0 false)from DG (q0:=q0) b a c d e (i:Int) hd hb f g j l k m n p) (by intro h;cases h))
      ·exact(v (i+1) q t).mono fun y u=>by have r:bf (aP q0 b a c d e (i:Int)) .normal (aP q0 b a c d e (inc (i:Int))):=DH (q0:=q0) b a c d e (i:Int) hd hb f g j l k m n p;rw[w]at r;cases y<;>exact TU r u
     ·exact TT (TV (show bf (aP q0 b a c d e (i:Int)) .ret (a7 q0 false)from DI (q0:=q0) b a c d e (i:Int) hd hb f g j l k m) (by intro h;cases h))
    ·exact TT (TV (show bf (aP q0 b a c d e (i:Int)) .ret (a7 q0 false)from DJ (q0:=q0) b a c d e (i:Int) hd hb f g j l k) (by intro h;cases h))
  ·exact TT (TV (show bf (aP q0 b a c d e (i:Int)) .ret (a7 q0 false)from DK (q0:=q0) b a c d e (i:Int) hd hb f g j) (by intro h;cases h))
noncomputable def qb (x0:GBoard):Option (Bool):=
  if x0.f1.length≤9223372036854775807 then(fW x0.f0 x0.f1 x0.f2 x0.f3 x0.f4 x0.f1 0).bind fun y=>match y with
   | .ret a=>(some (a))
   | .x0=>(some (decide ((x0.f1.length:Int)≤(2:Int))))else none
theorem J8 {q0:Kd}(x0:GBoard):Ans (qb x0) (fun r=>Does E 14 [.agg (GBoard.t .far q0 x0)] [T3 r]):=by
 unfold qb;refine TY (fun c => ?_);refine TX (fun y b => ?_);replace b:=Hv (q0:=q0) x0.f0 x0.f1 x0.f2 x0.f3 x0.f4 x0.f1 0 rfl c y b;cases y with
 |ret a =>have d:=b;exact TT (DP Tryz.f14 [.lp .ret (a7 q0 a)] (AL d<|AN))
 |x0 =>have d:=b;exact TT (DP Tryz.f14 [.lp (.exit 0) (lP q0 x0.f0 x0.f1 x0.f2 x0.f3 x0.f4),T8 (x0.f1.length:Int)] (AL d<|ALn x0.f1 (GPlan.t q0 q0)<|AN))
inductive zt where|ret (v2:Bool)|x0
def dQ (q0:Kd)(v0 v5:List GPlan)(v6 v7:Int):US:=stL 53 [(0,.one (.s .far () 9 (v0.map (GPlan.t q0 q0)))),(5,.one (.s .far () 9 (v5.map (GPlan.t q0 q0)))),(6,T5 v6),(7,T5 v7)]
def gY (q0:Kd)(a:Bool):US:=stL 53 [(2,T6 a)]
def qm (q0:Kd)(v0:List GPlan):US:=stL 53 [(0,.one (.s .far () 9 (v0.map (GPlan.t q0 q0))))]
abbrev jc:US→Exit→US→Prop:=Round E 21 (am Tryz.f21 0)
def IR {q0:Kd}(v0 v5:List GPlan)(v6 v7:Int):zt→Prop| .ret a=>Loops E 21 (am Tryz.f21 0) (dQ q0 v0 v5 v6 v7) .ret (gY q0 a)| .x0=>Loops E 21 (am Tryz.f21 0) (dQ q0 v0 v5 v6 v7) (.exit 0) (qm q0 v0)
noncomputable def fw (v0:List GPlan):List GPlan→Nat→Option zt|[],i=>some (.x0)|hd::rest,i=>if ac.sm hd.f0 then cond (aO hd.f0) (cond (ae hd.f2 hd.f0.f2 68374080) (cond (ae hd.f3 hd.f0.f2 68374079) (cond (decide ((i:Int)>(0:Int))) ((ak v0 (IntKind.wrap .i64 ((i:Int)-(1:Int)))).bind fun g1=>cond (Op.bytesLess hd.f0.f0.toList g1.f0.f0.toList ||hd.f0.f0.toList==g1.f0.f0.toList) (some (.ret false)) (fw v0 rest (i+1))) (fw v0 rest (i+1))) (some (.ret false))) (some (.ret false))) (some (.ret false))else none
theorem IQ {q0:Kd}(v0 v5:List GPlan)(rest:List GPlan):∀(i:Nat) ,(v5).drop i=rest→v5.length≤9223372036854775807→Ans (fw v0 rest i) (IR (q0:=q0) v0 v5 (v5.length:Int) (i:Int)):=by
 induction rest with
 |nil =>intro i a g;have hb:=aI a;unfold fw;exact TT (TV (show jc (dQ q0 v0 v5 (v5.length:Int) (i:Int)) (.exit 0) (qm q0 v0)from RP [.b false] (AC hb<|AN)) (by intro h;cases h))
 |cons hd rest n =>
  intro i a g;have hb:=aC a;have o:=aD a g;have e:=aq a;have b:=aB a;unfold fw;refine TY (fun c => ?_);apply TW<;>intro d
  ·apply TW<;>intro f
   ·apply TW<;>intro j
    ·apply TW<;>intro l
     ·refine TX (fun g1 p => ?_);apply TW<;>intro q
      ·exact TT (TV (show jc (dQ q0 v0 v5 (v5.length:Int) (i:Int)) .ret (gY q0 false)from RP [.b true,.row ((GPlan.t q0 q0) hd),rT,rT,rT,.b true,.row ((GPlan.t q0 q0) g1),.b true] (AC hb<|AR (GPlan.t q0 q0) b<|AV (ψ:=fun k=>E.C k 45 [.agg (GDag.t .far q0 hd.f0)]=some [T3 true]) (TZ (oz hd.f0 c) (by rw[d]))<|AD (T1 (an hd.f2 hd.f0.f2 68374080) f)<|AD (T1 (an hd.f3 hd.f0.f2 68374079) j)<|AC l<|AR (GPlan.t q0 q0) p<|AC q<|AN)) (by intro h;cases h))
      ·exact(n (i+1) e g).mono fun y m=>by have r:jc (dQ q0 v0 v5 (v5.length:Int) (i:Int)) .normal (dQ q0 v0 v5 (v5.length:Int) (inc (i:Int))):=RP [.b true,.row ((GPlan.t q0 q0) hd),rT,rT,rT,.b true,.row ((GPlan.t q0 q0) g1),.b false] (AC hb<|AR (GPlan.t q0 q0) b<|AV (ψ:=fun k=>E.C k 45 [.agg (GDag.t .far q0 hd.f0)]=some [T3 true]) (TZ (oz hd.f0 c) (by rw[d]))<|AD (T1 (an hd.f2 hd.f0.f2 68374080) f)<|AD (T1 (an hd.f3 hd.f0.f2 68374079) j)<|AC l<|AR (GPlan.t q0 q0) p<|AC q<|AN);rw[o]at r;cases y<;>exact TU r m
     ·exact(n (i+1) e g).mono fun y m=>by have r:jc (dQ q0 v0 v5 (v5.length:Int) (i:Int)) .normal (dQ q0 v0 v5 (v5.length:Int) (inc (i:Int))):=RP [.b true,.row ((GPlan.t q0 q0) hd),rT,rT,rT,.b false] (AC hb<|AR (GPlan.t q0 q0) b<|AV (ψ:=fun k=>E.C k 45 [.agg (GDag.t .far q0 hd.f0)]=some [T3 true]) (TZ (oz hd.f0 c) (by rw[d]))<|AD (T1 (an hd.f2 hd.f0.f2 68374080) f)<|AD (T1 (an hd.f3 hd.f0.f2 68374079) j)<|AC l<|AN);rw[o]at r;cases y<;>exact TU r m
    ·exact TT (TV (show jc (dQ q0 v0 v5 (v5.length:Int) (i:Int)) .ret (gY q0 false)from RP [.b true,.row ((GPlan.t q0 q0) hd),rT,rT,rF] (AC hb<|AR (GPlan.t q0 q0) b<|AV (ψ:=fun k=>E.C k 45 [.agg (GDag.t .far q0 hd.f0)]=some [T3 true]) (TZ (oz hd.f0 c) (by rw[d]))<|AD (T1 (an hd.f2 hd.f0.f2 68374080) f)<|AD (T1 (an hd.f3 hd.f0.f2 68374079) j)<|AN)) (by intro h;cases h))
   ·exact TT (TV (show jc (dQ q0 v0 v5 (v5.length:Int) (i:Int)) .ret (gY q0 false)from RP [.b true,.row ((GPlan.t q0 q0) hd),rT,rF] (AC hb<|AR (GPlan.t q0 q0) b<|AV (ψ:=fun k=>E.C k 45 [.agg (GDag.t .far q0 hd.f0)]=some [T3 true]) (TZ (oz hd.f0 c) (by rw[d]))<|AD (T1 (an hd.f2 hd.f0.f2 68374080) f)<|AN)) (by intro h;cases h))
  ·exact TT (TV (show jc (dQ q0 v0 v5 (v5.length:Int) (i:Int)) .ret (gY q0 false)from RP [.b true,.row ((GPlan.t q0 q0) hd),rF] (AC hb<|AR (GPlan.t q0 q0) b<|AV (ψ:=fun k=>E.C k 45 [.agg (GDag.t .far q0 hd.f0)]=some [T3 false]) (TZ (oz hd.f0 c) (by rw[d]))<|AN)) (by intro h;cases h))
noncomputable def ra (x0:List GPlan):Option (Bool):=
  if x0.length≤9223372036854775807 then(fw x0 x0 0).bind fun y=>match y with
   | .ret a=>(some (a))
   | .x0=>(some (decide ((x0.length:Int)≤(2:Int))))else none
theorem Ld {q0:Kd}(x0:List GPlan):Ans (ra x0) (fun r=>Does E 21 [.one (.s .far () 9 (x0.map (GPlan.t q0 q0)))] [T3 r]):=by
 unfold ra;refine TY (fun c => ?_);refine TX (fun y b => ?_);replace b:=IQ (q0:=q0) x0 x0 x0 0 rfl c y b;cases y with
 |ret a =>have d:=b;exact TT (DP Tryz.f21 [T8 (x0.length:Int),.lp .ret (gY q0 a)] (ALn x0 (GPlan.t q0 q0)<|AL d<|AN))
 |x0 =>have d:=b;exact TT (DP Tryz.f21 [T8 (x0.length:Int),.lp (.exit 0) (qm q0 x0),T8 (x0.length:Int)] (ALn x0 (GPlan.t q0 q0)<|AL d<|ALn x0 (GPlan.t q0 q0)<|AN))
noncomputable def JC (x:GPlan):Bool:=aO x.f0&&(ae x.f2 x.f0.f2 68374080&&ae x.f3 x.f0.f2 68374079)
noncomputable def fQ:Option GPlan→List GPlan→Bool
 |_,[]=>true
 |p,x::l=>JC x&&((match p with|some y=>Op.bytesLess y.f0.f0.toList x.f0.f0.toList|none=>true)&&fQ (some x) l)
noncomputable def bH (l:List GPlan):Bool:=fQ none l&&decide ((l.length:Int)≤2)
noncomputable def ji (b:GBoard)(x:GPlan):Bool := !decide (bE b x.f0.f0>2)
noncomputable def tV (b:GBoard):Bool:=bH b.f1&&b.f1.all (ji b)
theorem EI (b:GBoard)(hb:ac.sm b):∀(rest:List GPlan)(i:Nat),b.f1.drop i=rest→(∀y∈rest,ac.sm y) →
  fW b.f0 b.f1 b.f2 b.f3 b.f4 rest i=some (cond (fQ (ga b.f1 i) rest&&rest.all (ji b)) .x0 (.ret false))∧fw b.f1 rest i=some (cond (fQ (ga b.f1 i) rest) .x0 (.ret false))
 |[],i,_,_=>⟨rfl,rfl⟩
 |x::rest,i,h,hs=>by
  obtain⟨a,c⟩:=EI b hb rest (i+1) (aq h) fun y g=>hs y (by simp[g])
  rw[vx h]at a c;have d:ac.sm x.f0:=hs x (by simp);have e:GBoard.mk b.f0 b.f1 b.f2 b.f3 b.f4=b:=rfl;have f:decide (bE b x.f0.f0>2)= !ji b x:=by unfold ji;rw[Bool.not_not]
  unfold fW fw fQ JC;by_cases hi:0<i
  ·obtain⟨y,j,k⟩:=xt h hi hb.2.1.1;have hc:decide ((i:Int)>0)=true:=Uj (by omega);rw[j];simp only[hc,k,a,c,Ua,Uo,Ub d,e,Ub hb,B3,f,Vl];cases aO x.f0<;>cases ae x.f2 x.f0.f2 68374080<;>cases ae x.f3 x.f0.f2 68374079<;>cases Op.bytesLess y.f0.f0.toList x.f0.f0.toList<;>cases ji b x<;>cases fQ (some x) rest<;>exact⟨rfl,rfl⟩
  ·have hz:i=0:=by omega
   subst hz;have hc:decide (((0:Nat):Int)>0)=false:=rfl;have l:ga b.f1 0=none:=rfl;rw[l];simp only[hc,a,c,Uu,Ub d,e,Ub hb,f,Vl];cases aO x.f0<;>cases ae x.f2 x.f0.f2 68374080<;>cases ae x.f3 x.f0.f2 68374079<;>cases ji b x<;>cases fQ (some x) rest<;>exact⟨rfl,rfl⟩
theorem N7 (b:GBoard)(hb:ac.sm b):qb b=some (tV b):=by obtain⟨a, -⟩:=EI b hb b.f1 0 rfl hb.2.1.2;have c:ga b.f1 0=none:=rfl;rw[c]at a;unfold qb tV bH;rw[Ub (bI hb.2.1),a];cases fQ none b.f1<;>cases b.f1.all (ji b)<;>cases decide ((b.f1.length:Int)≤2)<;>rfl
theorem LJ (l:List GPlan)(h:ac.sm l):ra l=some (bH l):=by
 have hb:ac.sm (GBoard.mk [] l [] 0 0):=⟨Qb,h,Qb⟩
 obtain⟨-,a⟩:=EI (GBoard.mk [] l [] 0 0) hb l 0 rfl h.2;have b:ga l 0=none:=rfl;unfold ra bH;rw[Ub (bI h),show fw l l 0=_ from a];show Option.bind (some (cond (fQ none l) _ _)) _=_;cases fQ none l<;>rfl
theorem lS {q0:Kd}(x0:GBoard)(h:ac.sm x0):Does E 14 [.agg (GBoard.t .far q0 x0)] [T3 (tV x0)]:=by exact J8 x0 _ (N7 x0 h)
theorem lc {q0:Kd}(x0:List GPlan)(h:ac.sm x0):Does E 21 [.one (.s .far () 9 (x0.map (GPlan.t q0 q0)))] [T3 (bH x0)]:=by exact Ld x0 _ (LJ x0 h)
end
end Go.Proofs.YtoanlngmbcnglaaGreatDoor.Am
