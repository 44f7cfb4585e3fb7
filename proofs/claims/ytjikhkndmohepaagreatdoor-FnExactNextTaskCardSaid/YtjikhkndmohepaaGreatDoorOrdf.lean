/- Right sessions and plans. -/
import Derived.Test.YtjikhkndmohepaaGreatDoorOrdb
import Derived.Test.YtjikhkndmohepaaGreatDoorOrdd
namespace Go.Proofs.YtjikhkndmohepaaGreatDoor.Am
open Go
set_option linter.unusedVariables false
set_option linter.unusedSimpArgs false
section
open Go.Proofs Classical
set_option maxRecDepth 100000
noncomputable def gD (b:List GSession)(a:List GPlan)(c:List GRun)(d e:Int):List GPlan→Nat→Option zn|[],i=>some (.x0)|hd::rest,i=>if ab.sm hd.f0 then cond (aH hd.f0) (cond (decide ((i:Int)>(0:Int))) ((ak a (IntKind.wrap .i64 ((i:Int)-(1:Int)))).bind fun g1=>cond (!Op.bytesLess g1.f0.f0.toList hd.f0.f0.toList) (some (.ret false)) (cond (ag hd.f2 hd.f0.f2 68374080) (cond (ag hd.f3 hd.f0.f2 68374079) (if ab.sm (GBoard.mk b a c d e)then cond (decide ((aO (GBoard.mk b a c d e) hd.f0.f0)>(2:Int))) (some (.ret false)) (gD b a c d e rest (i+1))else none) (some (.ret false))) (some (.ret false)))) (cond (ag hd.f2 hd.f0.f2 68374080) (cond (ag hd.f3 hd.f0.f2 68374079) (if ab.sm (GBoard.mk b a c d e)then cond (decide ((aO (GBoard.mk b a c d e) hd.f0.f0)>(2:Int))) (some (.ret false)) (gD b a c d e rest (i+1))else none) (some (.ret false))) (some (.ret false)))) (some (.ret false))else none
theorem IH {q0:Kd}(b:List GSession)(a:List GPlan)(c:List GRun)(d e:Int)(rest:List GPlan):∀(i:Nat) ,(a).drop i=rest→a.length≤9223372036854775807→Ans (gD b a c d e rest i) (II (q0:=q0) b a c d e (i:Int)):=by
 induction rest with
 |nil =>intro i o t;have hb:=aK o;unfold gD;exact Vz (VB (show bn (aT q0 b a c d e (i:Int)) (.exit 0) (mu q0 b a c d e)from Dd (q0:=q0) b a c d e (i:Int) hb) (by intro h;cases h))
 |cons hd rest v =>
  intro i o t;have hb:=aF o;have w:=aG o t;have q:=au o;have f:=aE o;unfold gD;apply VE;intro g;apply VC<;>intro j
  ·apply VC<;>intro l
   ·apply VD;intro g1 k;apply VC<;>intro m
    ·exact Vz (VB (show bn (aT q0 b a c d e (i:Int)) .ret (bf q0 false)from EL (q0:=q0) b a c d e (i:Int) hd g1 hb f g j l k m) (by intro h;cases h))
    ·apply VC<;>intro n
     ·apply VC<;>intro p
      ·apply VE;intro x;apply VC<;>intro s
       ·exact Vz (VB (show bn (aT q0 b a c d e (i:Int)) .ret (bf q0 false)from EM (q0:=q0) b a c d e (i:Int) hd g1 hb f g j l k m n p x s) (by intro h;cases h))
       ·exact(v (i+1) q t).mono fun y u=>by have r:bn (aT q0 b a c d e (i:Int)) .normal (aT q0 b a c d e (inc (i:Int))):=EN (q0:=q0) b a c d e (i:Int) hd g1 hb f g j l k m n p x s;rw[w]at r;cases y<;>exact VA r u
      ·exact Vz (VB (show bn (aT q0 b a c d e (i:Int)) .ret (bf q0 false)from EO (q0:=q0) b a c d e (i:Int) hd g1 hb f g j l k m n p) (by intro h;cases h))
     ·exact Vz (VB (show bn (aT q0 b a c d e (i:Int)) .ret (bf q0 false)from EP (q0:=q0) b a c d e (i:Int) hd g1 hb f g j l k m n) (by intro h;cases h))
   ·apply VC<;>intro k
    ·apply VC<;>intro m
     ·apply VE;intro n;apply VC<;>intro p
      ·exact Vz (VB (show bn (aT q0 b a c d e (i:Int)) .ret (bf q0 false)from EQ (q0:=q0) b a c d e (i:Int) hd hb f g j l k m n p) (by intro h;cases h))
      ·exact(v (i+1) q t).mono fun y u=>by have r:bn (aT q0 b a c d e (i:Int)) .normal (aT q0 b a c d e (inc (i:Int))):=ER (q0:=q0) b a c d e (i:Int) hd hb f g j l k m n p;rw[w]at r;cases y<;>exact VA r u
     ·exact Vz (VB (show bn (aT q0 b a c d e (i:Int)) .ret (bf q0 false)from ES (q0:=q0) b a c d e (i:Int) hd hb f g j l k m) (by intro h;cases h))
    ·exact Vz (VB (show bn (aT q0 b a c d e (i:Int)) .ret (bf q0 false)from ET (q0:=q0) b a c d e (i:Int) hd hb f g j l k) (by intro h;cases h))
  ·exact Vz (VB (show bn (aT q0 b a c d e (i:Int)) .ret (bf q0 false)from EU (q0:=q0) b a c d e (i:Int) hd hb f g j) (by intro h;cases h))
noncomputable def qU (a:GBoard):Option (Bool):=
  if a.f1.length≤9223372036854775807 then(gD a.f0 a.f1 a.f2 a.f3 a.f4 a.f1 0).bind fun y=>match y with
   | .ret b=>(some (b))
   | .x0=>(some (decide ((a.f1.length:Int)≤(2:Int))))else none
theorem Lp {q0:Kd}(x0:GBoard):Ans (qU x0) (fun r=>Does E 27 [.agg (VI .far q0 x0)] [VY r]):=by
 unfold qU;apply VE;intro c;apply VD;intro y b;replace b:=IH (q0:=q0) x0.f0 x0.f1 x0.f2 x0.f3 x0.f4 x0.f1 0 rfl c y b;cases y with
 |ret a =>have d:=b;exact Vz (DP Tryz.f27 [.lp .ret (bf q0 a)] (AL d<|AN))
 |x0 =>have d:=b;exact Vz (DP Tryz.f27 [.lp (.exit 0) (mu q0 x0.f0 x0.f1 x0.f2 x0.f3 x0.f4),V5 (x0.f1.length:Int)] (AL d<|ALn x0.f1 (VL q0 q0)<|AN))
inductive Ax where|ret (v2:Bool)|x0
def ep (q0:Kd)(v0 v5:List GPlan)(v6 v7:Int):US:=stL 53 [(0,.one (V8 9 (v0.map (VL q0 q0)))),(5,.one (V8 9 (v5.map (VL q0 q0)))),(6,V2 v6),(7,V2 v7)]
def iy (q0:Kd)(a:Bool):US:=stL 53 [(2,V3 a)]
def rc (q0:Kd)(v0:List GPlan):US:=stL 53 [(0,.one (V8 9 (v0.map (VL q0 q0))))]
abbrev jD:US→Exit→US→Prop:=Round E 40 (an Tryz.f40 0)
def J8 {q0:Kd}(v0 v5:List GPlan)(v6 v7:Int):Ax→Prop| .ret a=>Loops E 40 (an Tryz.f40 0) (ep q0 v0 v5 v6 v7) .ret (iy q0 a)| .x0=>Loops E 40 (an Tryz.f40 0) (ep q0 v0 v5 v6 v7) (.exit 0) (rc q0 v0)
noncomputable def fT (v0:List GPlan):List GPlan→Nat→Option Ax|[],i=>some (.x0)|hd::rest,i=>if ab.sm hd.f0 then cond (aH hd.f0) (cond (ag hd.f2 hd.f0.f2 68374080) (cond (ag hd.f3 hd.f0.f2 68374079) (cond (decide ((i:Int)>(0:Int))) ((ak v0 (IntKind.wrap .i64 ((i:Int)-(1:Int)))).bind fun g1=>cond (Op.bytesLess hd.f0.f0.toList g1.f0.f0.toList ||hd.f0.f0.toList==g1.f0.f0.toList) (some (.ret false)) (fT v0 rest (i+1))) (fT v0 rest (i+1))) (some (.ret false))) (some (.ret false))) (some (.ret false))else none
theorem J7 {q0:Kd}(v0 v5:List GPlan)(rest:List GPlan):∀(i:Nat) ,(v5).drop i=rest→v5.length≤9223372036854775807→Ans (fT v0 rest i) (J8 (q0:=q0) v0 v5 (v5.length:Int) (i:Int)):=by
 induction rest with
 |nil =>intro i a g;have hb:=aK a;unfold fT;exact Vz (VB (show jD (ep q0 v0 v5 (v5.length:Int) (i:Int)) (.exit 0) (rc q0 v0)from RP [.b false] (AC hb<|AN)) (by intro h;cases h))
 |cons hd rest n =>
  intro i a g;have hb:=aF a;have o:=aG a g;have e:=au a;have b:=aE a;unfold fT;apply VE;intro c;apply VC<;>intro d
  ·apply VC<;>intro f
   ·apply VC<;>intro j
    ·apply VC<;>intro l
     ·apply VD;intro g1 p;apply VC<;>intro q
      ·exact Vz (VB (show jD (ep q0 v0 v5 (v5.length:Int) (i:Int)) .ret (iy q0 false)from RP [.b true,.row ((VL q0 q0) hd),rT,rT,rT,.b true,.row ((VL q0 q0) g1),.b true] (AC hb<|AR (VL q0 q0) b<|AV (ψ:=fun k=>E.C k 68 [.agg (VK .far q0 hd.f0)]=some [VY true]) (VF (lb hd.f0 c) (by rw[d]))<|AD (VH (ao hd.f2 hd.f0.f2 68374080) f)<|AD (VH (ao hd.f3 hd.f0.f2 68374079) j)<|AC l<|AR (VL q0 q0) p<|AC q<|AN)) (by intro h;cases h))
      ·exact(n (i+1) e g).mono fun y m=>by have r:jD (ep q0 v0 v5 (v5.length:Int) (i:Int)) .normal (ep q0 v0 v5 (v5.length:Int) (inc (i:Int))):=RP [.b true,.row ((VL q0 q0) hd),rT,rT,rT,.b true,.row ((VL q0 q0) g1),.b false] (AC hb<|AR (VL q0 q0) b<|AV (ψ:=fun k=>E.C k 68 [.agg (VK .far q0 hd.f0)]=some [VY true]) (VF (lb hd.f0 c) (by rw[d]))<|AD (VH (ao hd.f2 hd.f0.f2 68374080) f)<|AD (VH (ao hd.f3 hd.f0.f2 68374079) j)<|AC l<|AR (VL q0 q0) p<|AC q<|AN);rw[o]at r;cases y<;>exact VA r m
     ·exact(n (i+1) e g).mono fun y m=>by have r:jD (ep q0 v0 v5 (v5.length:Int) (i:Int)) .normal (ep q0 v0 v5 (v5.length:Int) (inc (i:Int))):=RP [.b true,.row ((VL q0 q0) hd),rT,rT,rT,.b false] (AC hb<|AR (VL q0 q0) b<|AV (ψ:=fun k=>E.C k 68 [.agg (VK .far q0 hd.f0)]=some [VY true]) (VF (lb hd.f0 c) (by rw[d]))<|AD (VH (ao hd.f2 hd.f0.f2 68374080) f)<|AD (VH (ao hd.f3 hd.f0.f2 68374079) j)<|AC l<|AN);rw[o]at r;cases y<;>exact VA r m
    ·exact Vz (VB (show jD (ep q0 v0 v5 (v5.length:Int) (i:Int)) .ret (iy q0 false)from RP [.b true,.row ((VL q0 q0) hd),rT,rT,rF] (AC hb<|AR (VL q0 q0) b<|AV (ψ:=fun k=>E.C k 68 [.agg (VK .far q0 hd.f0)]=some [VY true]) (VF (lb hd.f0 c) (by rw[d]))<|AD (VH (ao hd.f2 hd.f0.f2 68374080) f)<|AD (VH (ao hd.f3 hd.f0.f2 68374079) j)<|AN)) (by intro h;cases h))
   ·exact Vz (VB (show jD (ep q0 v0 v5 (v5.length:Int) (i:Int)) .ret (iy q0 false)from RP [.b true,.row ((VL q0 q0) hd),rT,rF] (AC hb<|AR (VL q0 q0) b<|AV (ψ:=fun k=>E.C k 68 [.agg (VK .far q0 hd.f0)]=some [VY true]) (VF (lb hd.f0 c) (by rw[d]))<|AD (VH (ao hd.f2 hd.f0.f2 68374080) f)<|AN)) (by intro h;cases h))
  ·exact Vz (VB (show jD (ep q0 v0 v5 (v5.length:Int) (i:Int)) .ret (iy q0 false)from RP [.b true,.row ((VL q0 q0) hd),rF] (AC hb<|AR (VL q0 q0) b<|AV (ψ:=fun k=>E.C k 68 [.agg (VK .far q0 hd.f0)]=some [VY false]) (VF (lb hd.f0 c) (by rw[d]))<|AN)) (by intro h;cases h))
noncomputable def rS (b:List GPlan):Option (Bool):=
  if b.length≤9223372036854775807 then(fT b b 0).bind fun y=>match y with
   | .ret a=>(some (a))
   | .x0=>(some (decide ((b.length:Int)≤(2:Int))))else none
theorem Mx {q0:Kd}(x0:List GPlan):Ans (rS x0) (fun r=>Does E 40 [.one (V8 9 (x0.map (VL q0 q0)))] [VY r]):=by
 unfold rS;apply VE;intro c;apply VD;intro y b;replace b:=J7 (q0:=q0) x0 x0 x0 0 rfl c y b;cases y with
 |ret a =>have d:=b;exact Vz (DP Tryz.f40 [V5 (x0.length:Int),.lp .ret (iy q0 a)] (ALn x0 (VL q0 q0)<|AL d<|AN))
 |x0 =>have d:=b;exact Vz (DP Tryz.f40 [V5 (x0.length:Int),.lp (.exit 0) (rc q0 x0),V5 (x0.length:Int)] (ALn x0 (VL q0 q0)<|AL d<|ALn x0 (VL q0 q0)<|AN))
noncomputable def KO (x:GPlan):Bool:=aH x.f0&&(ag x.f2 x.f0.f2 68374080&&ag x.f3 x.f0.f2 68374079)
noncomputable def gw:Option GPlan→List GPlan→Bool
 |_,[]=>true
 |p,x::l=>KO x&&((match p with|some y=>Op.bytesLess y.f0.f0.toList x.f0.f0.toList|none=>true)&&gw (some x) l)
noncomputable def a6 (l:List GPlan):Bool:=gw none l&&decide ((l.length:Int)≤2)
noncomputable def jJ (b:GBoard)(x:GPlan):Bool := !decide (aO b x.f0.f0>2)
noncomputable def uO (b:GBoard):Bool:=a6 b.f1&&b.f1.all (jJ b)
theorem FN (b:GBoard)(hb:ab.sm b):∀(rest:List GPlan)(i:Nat),b.f1.drop i=rest→(∀y∈rest,ab.sm y) →
  gD b.f0 b.f1 b.f2 b.f3 b.f4 rest i=some (cond (gw (gG b.f1 i) rest&&rest.all (jJ b)) .x0 (.ret false))∧fT b.f1 rest i=some (cond (gw (gG b.f1 i) rest) .x0 (.ret false))
 |[],i,_,_=>⟨rfl,rfl⟩
 |x::rest,i,h,hs=>by
  obtain⟨a,c⟩:=FN b hb rest (i+1) (au h) fun y g=>hs y (by simp[g])
  rw[wy h]at a c;have d:ab.sm x.f0:=hs x (by simp);have e:GBoard.mk b.f0 b.f1 b.f2 b.f3 b.f4=b:=rfl;have f:decide (aO b x.f0.f0>2)= !jJ b x:=by unfold jJ;rw[Bool.not_not]
  unfold gD fT gw KO;by_cases hi:0<i
  ·obtain⟨y,j,k⟩:=yq h hi hb.2.1.1;have hc:decide ((i:Int)>0)=true:=Wi (by omega);rw[j];simp only[hc,k,a,c,V9,Wn,Wa d,e,Wa hb,C4,f,Xh];cases aH x.f0<;>cases ag x.f2 x.f0.f2 68374080<;>cases ag x.f3 x.f0.f2 68374079<;>cases Op.bytesLess y.f0.f0.toList x.f0.f0.toList<;>cases jJ b x<;>cases gw (some x) rest<;>exact⟨rfl,rfl⟩
  ·have hz:i=0:=by omega
   subst hz;have hc:decide (((0:Nat):Int)>0)=false:=rfl;have l:gG b.f1 0=none:=rfl;rw[l];simp only[hc,a,c,Wu,Wa d,e,Wa hb,f,Xh];cases aH x.f0<;>cases ag x.f2 x.f0.f2 68374080<;>cases ag x.f3 x.f0.f2 68374079<;>cases jJ b x<;>cases gw (some x) rest<;>exact⟨rfl,rfl⟩
theorem PG (b:GBoard)(hb:ab.sm b):qU b=some (uO b):=by obtain⟨a, -⟩:=FN b hb b.f1 0 rfl hb.2.1.2;have c:gG b.f1 0=none:=rfl;rw[c]at a;unfold qU uO a6;rw[Wa (bM hb.2.1),a];cases gw none b.f1<;>cases b.f1.all (jJ b)<;>cases decide ((b.f1.length:Int)≤2)<;>rfl
theorem M4 (l:List GPlan)(h:ab.sm l):rS l=some (a6 l):=by
 have hb:ab.sm (GBoard.mk [] l [] 0 0):=⟨RJ,h,RJ⟩
 obtain⟨-,a⟩:=FN (GBoard.mk [] l [] 0 0) hb l 0 rfl h.2;have b:gG l 0=none:=rfl;unfold rS a6;rw[Wa (bM h),show fT l l 0=_ from a];show Option.bind (some (cond (gw none l) _ _)) _=_;cases gw none l<;>rfl
theorem mA {q0:Kd}(a:GBoard)(h:ab.sm a):Does E 27 [.agg (VI .far q0 a)] [VY (uO a)]:=by exact Lp a _ (PG a h)
theorem lO {q0:Kd}(a:List GPlan)(h:ab.sm a):Does E 40 [.one (V8 9 (a.map (VL q0 q0)))] [VY (a6 a)]:=by exact Mx a _ (M4 a h)
end
end Go.Proofs.YtjikhkndmohepaaGreatDoor.Am
