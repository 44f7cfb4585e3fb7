/- Right runs. -/
import Derived.Test.YtoanlngmbcnglaaGreatDoorRitb
import Derived.Test.YtoanlngmbcnglaaGreatDoorRitc
import Derived.Test.YtoanlngmbcnglaaGreatDoorRitd
import Derived.Test.YtoanlngmbcnglaaGreatDoorRite
namespace Go.Proofs.YtoanlngmbcnglaaGreatDoor.Am
open Go
set_option linter.unusedVariables false
set_option linter.unusedSimpArgs false
section
open Go.Proofs Classical
set_option maxRecDepth 100000
noncomputable def cI (v2_0 v2_1:ByteArray)(v2_2 v2_3:Int)(a:List GTask)(b:ByteArray)(c d e:Int)(f:List GState):List GState→Nat→Bool→Option BE|[],i,v2_4=>some (.x0)|hd::rest,i,v2_4=>cond (ae hd.f0 0 4) ((ak a (i:Int)).bind fun g1=>cond (ae hd.f1 0 (inc g1.f2)) (cond (ae hd.f2 0 1000000000) (cond (!((decide (hd.f2>(0:Int)))==(hd.f0==(1:Int)))) (some (.ret false)) (cond (ae hd.f3 0 68374179) (if ac.sm (GDag.mk v2_0 v2_1 v2_2 v2_3 v2_4 a)then if aO (GDag.mk v2_0 v2_1 v2_2 v2_3 v2_4 a)=true then if(GRun.mk b (GSpan.mk c d) e f).f3.length=(GDag.mk v2_0 v2_1 v2_2 v2_3 v2_4 a).f5.length then if 0≤(i:Int)∧(i:Int)<((GDag.mk v2_0 v2_1 v2_2 v2_3 v2_4 a).f5.length:Int)then cond (hd.f0==(1:Int)) (cond ((aE (GDag.mk v2_0 v2_1 v2_2 v2_3 v2_4 a) (GRun.mk b (GSpan.mk c d) e f) (i:Int)).1) (cond (hd.f0==(4:Int)) (cond ((aE (GDag.mk v2_0 v2_1 v2_2 v2_3 v2_4 a) (GRun.mk b (GSpan.mk c d) e f) (i:Int)).2) (cond (hd.f0==(0:Int)) (some (.ret false)) (cI v2_0 v2_1 v2_2 v2_3 a b c d e f rest (i+1) v2_4)) (some (.ret false))) (cond (hd.f0==(0:Int)) (cond ((aE (GDag.mk v2_0 v2_1 v2_2 v2_3 v2_4 a) (GRun.mk b (GSpan.mk c d) e f) (i:Int)).2) (some (.ret false)) (cI v2_0 v2_1 v2_2 v2_3 a b c d e f rest (i+1) v2_4)) (cI v2_0 v2_1 v2_2 v2_3 a b c d e f rest (i+1) v2_4))) (some (.ret false))) (cond (hd.f0==(2:Int)) (cond ((aE (GDag.mk v2_0 v2_1 v2_2 v2_3 v2_4 a) (GRun.mk b (GSpan.mk c d) e f) (i:Int)).1) (cond (hd.f0==(4:Int)) (cond ((aE (GDag.mk v2_0 v2_1 v2_2 v2_3 v2_4 a) (GRun.mk b (GSpan.mk c d) e f) (i:Int)).2) (cond (hd.f0==(0:Int)) (some (.ret false)) (cI v2_0 v2_1 v2_2 v2_3 a b c d e f rest (i+1) v2_4)) (some (.ret false))) (cond (hd.f0==(0:Int)) (cond ((aE (GDag.mk v2_0 v2_1 v2_2 v2_3 v2_4 a) (GRun.mk b (GSpan.mk c d) e f) (i:Int)).2) (some (.ret false)) (cI v2_0 v2_1 v2_2 v2_3 a b c d e f rest (i+1) v2_4)) (cI v2_0 v2_1 v2_2 v2_3 a b c d e f rest (i+1) v2_4))) (some (.ret false))) (cond (hd.f0==(4:Int)) (cond ((aE (GDag.mk v2_0 v2_1 v2_2 v2_3 v2_4 a) (GRun.mk b (GSpan.mk c d) e f) (i:Int)).2) (cond (hd.f0==(0:Int)) (some (.ret false)) (cI v2_0 v2_1 v2_2 v2_3 a b c d e f rest (i+1) v2_4)) (some (.ret false))) (cond (hd.f0==(0:Int)) (cond ((aE (GDag.mk v2_0 v2_1 v2_2 v2_3 v2_4 a) (GRun.mk b (GSpan.mk c d) e f) (i:Int)).2) (some (.ret false)) (cI v2_0 v2_1 v2_2 v2_3 a b c d e f rest (i+1) v2_4)) (cI v2_0 v2_1 v2_2 v2_3 a b c d e f rest (i+1) v2_4))))else none else none else none else none) (some (.ret false)))) (some (.ret false))) (some (.ret false))) (some (.ret false))
theorem L5 {q0:Kd}(v2_0 v2_1:ByteArray)(v2_2 v2_3:Int)(b:List GTask)(c:ByteArray)(d e f:Int)(a:List GState)(rest:List GState):∀(i:Nat)(v2_4:Bool),(a).drop i=rest→a.length≤9223372036854775807→Ans (cI v2_0 v2_1 v2_2 v2_3 b c d e f a rest i v2_4) (L6 (q0:=q0) v2_0 v2_1 v2_2 v2_3 v2_4 b c d e f a (i:Int)):=by
 induction rest with
 |nil =>intro i v2_4 D z;have hb:=aI D;unfold cI;exact TT (TV (show ax (ao q0 v2_0 v2_1 v2_2 v2_3 v2_4 b c d e f a (i:Int)) (.exit 0) (of q0)from E7 (q0:=q0) v2_0 v2_1 v2_2 v2_3 v2_4 b c d e f a (i:Int) hb) (by intro h;cases h))
 |cons hd rest B =>
  intro i v2_4 D z;have hb:=aC D;have C:=aD D z;have w:=aq D;have m:=aB D;unfold cI;apply TW<;>intro n
  ·refine TX (fun g1 o => ?_);apply TW<;>intro p
   ·apply TW<;>intro q
    ·apply TW<;>intro s
     ·exact TT (TV (show ax (ao q0 v2_0 v2_1 v2_2 v2_3 v2_4 b c d e f a (i:Int)) .ret (aH q0 false)from Hl (q0:=q0) v2_0 v2_1 v2_2 v2_3 v2_4 b c d e f a (i:Int) hd g1 hb m n o p q s) (by intro h;cases h))
     ·apply TW<;>intro t
      ·refine TY (fun u => ?_);refine TY (fun v => ?_);refine TY (fun j => ?_);refine TY (fun k => ?_);apply TW<;>intro f1
       ·apply TW<;>intro g
        ·apply TW<;>intro f2
         ·apply TW<;>intro l
          ·apply TW<;>intro A
           ·exact TT (TV (show ax (ao q0 v2_0 v2_1 v2_2 v2_3 v2_4 b c d e f a (i:Int)) .ret (aH q0 false)from Hm (q0:=q0) v2_0 v2_1 v2_2 v2_3 v2_4 b c d e f a (i:Int) hd g1 hb m n o p q s t u v j k g l f1 f2 A) (by intro h;cases h))
           ·exact(B (i+1) v2_4 w z).mono fun y x=>by have r:ax (ao q0 v2_0 v2_1 v2_2 v2_3 v2_4 b c d e f a (i:Int)) .normal (ao q0 v2_0 v2_1 v2_2 v2_3 v2_4 b c d e f a (inc (i:Int))):=Hn (q0:=q0) v2_0 v2_1 v2_2 v2_3 v2_4 b c d e f a (i:Int) hd g1 hb m n o p q s t u v j k g l f1 f2 A;rw[C]at r;cases y<;>exact TU r x
          ·exact TT (TV (show ax (ao q0 v2_0 v2_1 v2_2 v2_3 v2_4 b c d e f a (i:Int)) .ret (aH q0 false)from Ho (q0:=q0) v2_0 v2_1 v2_2 v2_3 v2_4 b c d e f a (i:Int) hd g1 hb m n o p q s t u v j k g l f1 f2) (by intro h;cases h))
         ·apply TW<;>intro f3
          ·apply TW<;>intro l
           ·exact TT (TV (show ax (ao q0 v2_0 v2_1 v2_2 v2_3 v2_4 b c d e f a (i:Int)) .ret (aH q0 false)from Hp (q0:=q0) v2_0 v2_1 v2_2 v2_3 v2_4 b c d e f a (i:Int) hd g1 hb m n o p q s t u v j k g l f1 f2 f3) (by intro h;cases h))
           ·exact(B (i+1) v2_4 w z).mono fun y x=>by have r:ax (ao q0 v2_0 v2_1 v2_2 v2_3 v2_4 b c d e f a (i:Int)) .normal (ao q0 v2_0 v2_1 v2_2 v2_3 v2_4 b c d e f a (inc (i:Int))):=Hq (q0:=q0) v2_0 v2_1 v2_2 v2_3 v2_4 b c d e f a (i:Int) hd g1 hb m n o p q s t u v j k g l f1 f2 f3;rw[C]at r;cases y<;>exact TU r x
          ·exact(B (i+1) v2_4 w z).mono fun y x=>by have r:ax (ao q0 v2_0 v2_1 v2_2 v2_3 v2_4 b c d e f a (i:Int)) .normal (ao q0 v2_0 v2_1 v2_2 v2_3 v2_4 b c d e f a (inc (i:Int))):=Hr (q0:=q0) v2_0 v2_1 v2_2 v2_3 v2_4 b c d e f a (i:Int) hd g1 hb m n o p q s t u v j k g f1 f2 f3;rw[C]at r;cases y<;>exact TU r x
        ·exact TT (TV (show ax (ao q0 v2_0 v2_1 v2_2 v2_3 v2_4 b c d e f a (i:Int)) .ret (aH q0 false)from Hs (q0:=q0) v2_0 v2_1 v2_2 v2_3 v2_4 b c d e f a (i:Int) hd g1 hb m n o p q s t u v j k g f1) (by intro h;cases h))
       ·apply TW<;>intro f4
        ·apply TW<;>intro g
         ·apply TW<;>intro f5
          ·apply TW<;>intro l
           ·apply TW<;>intro F
            ·exact TT (TV (show ax (ao q0 v2_0 v2_1 v2_2 v2_3 v2_4 b c d e f a (i:Int)) .ret (aH q0 false)from Ht (q0:=q0) v2_0 v2_1 v2_2 v2_3 v2_4 b c d e f a (i:Int) hd g1 hb m n o p q s t u v j k g l f1 f4 f5 F) (by intro h;cases h))
            ·exact(B (i+1) v2_4 w z).mono fun y x=>by have r:ax (ao q0 v2_0 v2_1 v2_2 v2_3 v2_4 b c d e f a (i:Int)) .normal (ao q0 v2_0 v2_1 v2_2 v2_3 v2_4 b c d e f a (inc (i:Int))):=Hu (q0:=q0) v2_0 v2_1 v2_2 v2_3 v2_4 b c d e f a (i:Int) hd g1 hb m n o p q s t u v j k g l f1 f4 f5 F;rw[C]at r;cases y<;>exact TU r x
           ·exact TT (TV (show ax (ao q0 v2_0 v2_1 v2_2 v2_3 v2_4 b c d e f a (i:Int)) .ret (aH q0 false)from ES (q0:=q0) v2_0 v2_1 v2_2 v2_3 v2_4 b c d e f a (i:Int) hd g1 hb m n o p q s t u v j k g l f1 f4 f5) (by intro h;cases h))
          ·apply TW<;>intro f6
           ·apply TW<;>intro l
            ·exact TT (TV (show ax (ao q0 v2_0 v2_1 v2_2 v2_3 v2_4 b c d e f a (i:Int)) .ret (aH q0 false)from ET (q0:=q0) v2_0 v2_1 v2_2 v2_3 v2_4 b c d e f a (i:Int) hd g1 hb m n o p q s t u v j k g l f1 f4 f5 f6) (by intro h;cases h))
            ·exact(B (i+1) v2_4 w z).mono fun y x=>by have r:ax (ao q0 v2_0 v2_1 v2_2 v2_3 v2_4 b c d e f a (i:Int)) .normal (ao q0 v2_0 v2_1 v2_2 v2_3 v2_4 b c d e f a (inc (i:Int))):=EU (q0:=q0) v2_0 v2_1 v2_2 v2_3 v2_4 b c d e f a (i:Int) hd g1 hb m n o p q s t u v j k g l f1 f4 f5 f6;rw[C]at r;cases y<;>exact TU r x
           ·exact(B (i+1) v2_4 w z).mono fun y x=>by have r:ax (ao q0 v2_0 v2_1 v2_2 v2_3 v2_4 b c d e f a (i:Int)) .normal (ao q0 v2_0 v2_1 v2_2 v2_3 v2_4 b c d e f a (inc (i:Int))):=EV (q0:=q0) v2_0 v2_1 v2_2 v2_3 v2_4 b c d e f a (i:Int) hd g1 hb m n o p q s t u v j k g f1 f4 f5 f6;rw[C]at r;cases y<;>exact TU r x
         ·exact TT (TV (show ax (ao q0 v2_0 v2_1 v2_2 v2_3 v2_4 b c d e f a (i:Int)) .ret (aH q0 false)from EW (q0:=q0) v2_0 v2_1 v2_2 v2_3 v2_4 b c d e f a (i:Int) hd g1 hb m n o p q s t u v j k g f1 f4) (by intro h;cases h))
        ·apply TW<;>intro f7
         ·apply TW<;>intro g
          ·apply TW<;>intro A
           ·exact TT (TV (show ax (ao q0 v2_0 v2_1 v2_2 v2_3 v2_4 b c d e f a (i:Int)) .ret (aH q0 false)from EX (q0:=q0) v2_0 v2_1 v2_2 v2_3 v2_4 b c d e f a (i:Int) hd g1 hb m n o p q s t u v j k g f1 f4 f7 A) (by intro h;cases h))
           ·exact(B (i+1) v2_4 w z).mono fun y x=>by have r:ax (ao q0 v2_0 v2_1 v2_2 v2_3 v2_4 b c d e f a (i:Int)) .normal (ao q0 v2_0 v2_1 v2_2 v2_3 v2_4 b c d e f a (inc (i:Int))):=EY (q0:=q0) v2_0 v2_1 v2_2 v2_3 v2_4 b c d e f a (i:Int) hd g1 hb m n o p q s t u v j k g f1 f4 f7 A;rw[C]at r;cases y<;>exact TU r x
          ·exact TT (TV (show ax (ao q0 v2_0 v2_1 v2_2 v2_3 v2_4 b c d e f a (i:Int)) .ret (aH q0 false)from EZ (q0:=q0) v2_0 v2_1 v2_2 v2_3 v2_4 b c d e f a (i:Int) hd g1 hb m n o p q s t u v j k g f1 f4 f7) (by intro h;cases h))
         ·apply TW<;>intro f8
          ·apply TW<;>intro g
           ·exact TT (TV (show ax (ao q0 v2_0 v2_1 v2_2 v2_3 v2_4 b c d e f a (i:Int)) .ret (aH q0 false)from E0 (q0:=q0) v2_0 v2_1 v2_2 v2_3 v2_4 b c d e f a (i:Int) hd g1 hb m n o p q s t u v j k g f1 f4 f7 f8) (by intro h;cases h))
           ·exact(B (i+1) v2_4 w z).mono fun y x=>by have r:ax (ao q0 v2_0 v2_1 v2_2 v2_3 v2_4 b c d e f a (i:Int)) .normal (ao q0 v2_0 v2_1 v2_2 v2_3 v2_4 b c d e f a (inc (i:Int))):=E1 (q0:=q0) v2_0 v2_1 v2_2 v2_3 v2_4 b c d e f a (i:Int) hd g1 hb m n o p q s t u v j k g f1 f4 f7 f8;rw[C]at r;cases y<;>exact TU r x
          ·exact(B (i+1) v2_4 w z).mono fun y x=>by have r:ax (ao q0 v2_0 v2_1 v2_2 v2_3 v2_4 b c d e f a (i:Int)) .normal (ao q0 v2_0 v2_1 v2_2 v2_3 v2_4 b c d e f a (inc (i:Int))):=E2 (q0:=q0) v2_0 v2_1 v2_2 v2_3 v2_4 b c d e f a (i:Int) hd g1 hb m n o p q s t u v j k f1 f4 f7 f8;rw[C]at r;cases y<;>exact TU r x
      ·exact TT (TV (show ax (ao q0 v2_0 v2_1 v2_2 v2_3 v2_4 b c d e f a (i:Int)) .ret (aH q0 false)from E3 (q0:=q0) v2_0 v2_1 v2_2 v2_3 v2_4 b c d e f a (i:Int) hd g1 hb m n o p q s t) (by intro h;cases h))
    ·exact TT (TV (show ax (ao q0 v2_0 v2_1 v2_2 v2_3 v2_4 b c d e f a (i:Int)) .ret (aH q0 false)from E4 (q0:=q0) v2_0 v2_1 v2_2 v2_3 v2_4 b c d e f a (i:Int) hd g1 hb m n o p q) (by intro h;cases h))
   ·exact TT (TV (show ax (ao q0 v2_0 v2_1 v2_2 v2_3 v2_4 b c d e f a (i:Int)) .ret (aH q0 false)from E5 (q0:=q0) v2_0 v2_1 v2_2 v2_3 v2_4 b c d e f a (i:Int) hd g1 hb m n o p) (by intro h;cases h))
  ·exact TT (TV (show ax (ao q0 v2_0 v2_1 v2_2 v2_3 v2_4 b c d e f a (i:Int)) .ret (aH q0 false)from E6 (q0:=q0) v2_0 v2_1 v2_2 v2_3 v2_4 b c d e f a (i:Int) hd hb m n) (by intro h;cases h))
noncomputable def sY (x0:GDag)(a:GRun):Option (Bool):=
  cond (!(a.f0.toList==x0.f0.toList))
   (some (false))
   (cond (rG a.f1)
    (cond (ae a.f2 0 1000)
     (cond ((a.f3.length:Int) != (x0.f5.length:Int))
      (some (false))
      (if a.f3.length≤9223372036854775807 then(cI x0.f0 x0.f1 x0.f2 x0.f3 x0.f5 a.f0 a.f1.f0 a.f1.f1 a.f2 a.f3 a.f3 0 x0.f4).bind fun y=>match y with
       | .ret b=>(some (b))
       | .x0=>(some (true))else none))
     (some (false)))
    (some (false)))
theorem Oo {q0:Kd}(x0:GDag)(a:GRun):Ans (sY x0 a) (fun r=>Does E 38 [.agg (GDag.t .far q0 x0),.agg (GRun.t .far a)] [T3 r]):=by
 unfold sY;apply TW<;>intro b
 ·exact TT (DP Tryz.f38 [.b true] (AC b<|AN))
 ·apply TW<;>intro c
  ·apply TW<;>intro e
   ·apply TW<;>intro g
    ·exact TT (DP Tryz.f38 [.b false,rT,rT,T8 (a.f3.length:Int),T8 (x0.f5.length:Int),.b true] (AC b<|AD (T1 (nt a.f1) c)<|AD (T1 (ag a.f2 0 1000) e)<|ALn a.f3 GState.t<|ALn x0.f5 (GTask.t q0)<|AC g<|AN))
    ·refine TY (fun h => ?_);refine TX (fun y f => ?_);replace f:=L5 (q0:=q0) x0.f0 x0.f1 x0.f2 x0.f3 x0.f5 a.f0 a.f1.f0 a.f1.f1 a.f2 a.f3 a.f3 0 x0.f4 rfl h y f;cases y with
     |ret d =>have i:=f;exact TT (DP Tryz.f38 [.b false,rT,rT,T8 (a.f3.length:Int),T8 (x0.f5.length:Int),.b false,.lp .ret (aH q0 d)] (AC b<|AD (T1 (nt a.f1) c)<|AD (T1 (ag a.f2 0 1000) e)<|ALn a.f3 GState.t<|ALn x0.f5 (GTask.t q0)<|AC g<|AL i<|AN))
     |x0 =>have i:=f;exact TT (DP Tryz.f38 [.b false,rT,rT,T8 (a.f3.length:Int),T8 (x0.f5.length:Int),.b false,.lp (.exit 0) (of q0)] (AC b<|AD (T1 (nt a.f1) c)<|AD (T1 (ag a.f2 0 1000) e)<|ALn a.f3 GState.t<|ALn x0.f5 (GTask.t q0)<|AC g<|AL i<|AN))
   ·exact TT (DP Tryz.f38 [.b false,rT,rF] (AC b<|AD (T1 (nt a.f1) c)<|AD (T1 (ag a.f2 0 1000) e)<|AN))
  ·exact TT (DP Tryz.f38 [.b false,rF] (AC b<|AD (T1 (nt a.f1) c)<|AN))
def Fp (x:GState)(m:Int)(done a:Bool):Bool :=ae x.f0 0 4&&(ae x.f1 0 m&&(ae x.f2 0 1000000000&&((decide (x.f2>0)==(x.f0==1))&&(ae x.f3 0 68374179&&(cond (x.f0==1 ||x.f0==2) done (cond (x.f0==4) a (cond (x.f0==0) (!a) true)))))))
noncomputable def lA (d:GDag)(r:GRun)(i:Int):Bool:=match ak r.f3 i,ak d.f5 i with
 |some x,some t=>Fp x (inc t.f2) (bO d r i).1 (ck d r i).2
 |_,_=>false
theorem zR {x:Int}{a b:Int}(h:(x==a)=true)(c:a≠b):(x==b)=false:=by rw[V6]at h;rw[Va];omega
theorem Qd (d:GDag)(r:GRun)(i:Int)(h:ac.sm d)(hd:aO d=true)(a:r.f3.length=d.f5.length)(hi:0≤i∧i<(d.f5.length:Int)):rb d r i=some (lA d r i):=by
 obtain⟨t,b,_⟩:=gU hi;obtain⟨x,c,_⟩:=gU (l:=r.f3) (k:=i) (by omega);unfold rb lA Fp;simp only[b,c,Ua,Ub h,Ub hd,Ub a,Ub hi];cases ae x.f0 0 4<;>cases ae x.f1 0 (inc t.f2)<;>cases ae x.f2 0 1000000000<;>cases ae x.f3 0 68374179<;>cases(decide (x.f2>0)==(x.f0==1))<;>try rfl
 cases x.f0==1<;>cases x.f0==2<;>cases x.f0==4<;>cases x.f0==0<;>rfl
theorem AJ {q0:Kd}(x0:GDag)(a:GRun)(x2:Int)(h:ac.sm x0)(hd:aO x0=true)(b:a.f3.length=x0.f5.length)(hi:0≤x2∧x2<(x0.f5.length:Int)):Does E 74 [.agg (GDag.t .far q0 x0),.agg (GRun.t .far a),T5 x2] [T3 (lA x0 a x2)]:=by exact Lg x0 a x2 _ (Qd x0 a x2 h hd b hi)
inductive C8 where|ret (v4:Bool)|x0
def mD (q0:Kd)(v2_0 v2_1:ByteArray)(v2_2 v2_3:Int)(v2_4:Bool)(a:List GTask)(b:ByteArray)(c d e:Int)(f:List GState)(g h:Int):US:=stL 44 [(2,.box () [tS v2_0,tS v2_1,tI v2_2,tI v2_3,tB v2_4,.s .far () 5 (a.map (GTask.t q0))]),(3,.box () [tS b,tI c,tI d,tI e,.s .far () 4 (f.map GState.t)]),(34,T5 g),(35,T5 h)]
def rU (q0:Kd)(a:Bool):US:=stL 44 [(4,T6 a)]
def tK (q0:Kd)  : US:=stL 44 []
abbrev w9:US→Exit→US→Prop:=Round E 47 (am Tryz.f47 0)
def NH {q0:Kd}(v2_0 v2_1:ByteArray)(v2_2 v2_3:Int)(v2_4:Bool)(a:List GTask)(b:ByteArray)(c d e:Int)(f:List GState)(g h:Int):C8→Prop| .ret i=>Loops E 47 (am Tryz.f47 0) (mD q0 v2_0 v2_1 v2_2 v2_3 v2_4 a b c d e f g h) .ret (rU q0 i)| .x0=>Loops E 47 (am Tryz.f47 0) (mD q0 v2_0 v2_1 v2_2 v2_3 v2_4 a b c d e f g h) (.exit 0) (tK q0)
noncomputable def kL (v2_0 v2_1:ByteArray)(v2_2 v2_3:Int)(a:List GTask)(b:ByteArray)(c d e:Int)(f:List GState):List GState→Nat→Bool→Option C8|[],i,v2_4=>some (.x0)|hd::rest,i,v2_4=>if ac.sm (GDag.mk v2_0 v2_1 v2_2 v2_3 v2_4 a)then if aO (GDag.mk v2_0 v2_1 v2_2 v2_3 v2_4 a)=true then if(GRun.mk b (GSpan.mk c d) e f).f3.length=(GDag.mk v2_0 v2_1 v2_2 v2_3 v2_4 a).f5.length then if 0≤(i:Int)∧(i:Int)<((GDag.mk v2_0 v2_1 v2_2 v2_3 v2_4 a).f5.length:Int)then cond (lA (GDag.mk v2_0 v2_1 v2_2 v2_3 v2_4 a) (GRun.mk b (GSpan.mk c d) e f) (i:Int)) (kL v2_0 v2_1 v2_2 v2_3 a b c d e f rest (i+1) v2_4) (some (.ret false))else none else none else none else none
theorem NG {q0:Kd}(v2_0 v2_1:ByteArray)(v2_2 v2_3:Int)(b:List GTask)(c:ByteArray)(d e f:Int)(a:List GState)(rest:List GState):∀(i:Nat)(v2_4:Bool),(a).drop i=rest→a.length≤9223372036854775807→Ans (kL v2_0 v2_1 v2_2 v2_3 b c d e f a rest i v2_4) (NH (q0:=q0) v2_0 v2_1 v2_2 v2_3 v2_4 b c d e f a (a.length:Int) (i:Int)):=by
 induction rest with
 |nil =>intro i v2_4 g j;have hb:=aI g;unfold kL;exact TT (TV (show w9 (mD q0 v2_0 v2_1 v2_2 v2_3 v2_4 b c d e f a (a.length:Int) (i:Int)) (.exit 0) (tK q0)from RP [.b false] (AC hb<|AN)) (by intro h;cases h))
 |cons hd rest s =>
  intro i v2_4 g j;have hb:=aC g;have u:=aD g j;have l:=aq g;have w:=aB g;unfold kL;refine TY (fun m => ?_);refine TY (fun n => ?_);refine TY (fun o => ?_);refine TY (fun p => ?_);apply TW<;>intro q
  ·exact(s (i+1) v2_4 l j).mono fun y v=>by have r:w9 (mD q0 v2_0 v2_1 v2_2 v2_3 v2_4 b c d e f a (a.length:Int) (i:Int)) .normal (mD q0 v2_0 v2_1 v2_2 v2_3 v2_4 b c d e f a (a.length:Int) (inc (i:Int))):=RP [.b true,rT] (AC hb<|AV (ψ:=fun k=>E.C k 74 [.agg (GDag.t .far q0 (GDag.mk v2_0 v2_1 v2_2 v2_3 v2_4 b)),.agg (GRun.t .far (GRun.mk c (GSpan.mk d e) f a)),T5 (i:Int)]=some [T3 true]) (TZ (AJ (GDag.mk v2_0 v2_1 v2_2 v2_3 v2_4 b) (GRun.mk c (GSpan.mk d e) f a) (i:Int) m n o p) (by rw[q]))<|AN);rw[u]at r;cases y<;>exact TU r v
  ·exact TT (TV (show w9 (mD q0 v2_0 v2_1 v2_2 v2_3 v2_4 b c d e f a (a.length:Int) (i:Int)) .ret (rU q0 false)from RP [.b true,rF] (AC hb<|AV (ψ:=fun k=>E.C k 74 [.agg (GDag.t .far q0 (GDag.mk v2_0 v2_1 v2_2 v2_3 v2_4 b)),.agg (GRun.t .far (GRun.mk c (GSpan.mk d e) f a)),T5 (i:Int)]=some [T3 false]) (TZ (AJ (GDag.mk v2_0 v2_1 v2_2 v2_3 v2_4 b) (GRun.mk c (GSpan.mk d e) f a) (i:Int) m n o p) (by rw[q]))<|AN)) (by intro h;cases h))
noncomputable def uG (x0:GDag)(a:GRun):Option (Bool):=
  cond (!(a.f0.toList==x0.f0.toList))
   (some (false))
   (cond (rG a.f1)
    (cond (ae a.f2 0 1000)
     (cond ((a.f3.length:Int) != (x0.f5.length:Int))
      (some (false))
      (if a.f3.length≤9223372036854775807 then(kL x0.f0 x0.f1 x0.f2 x0.f3 x0.f5 a.f0 a.f1.f0 a.f1.f1 a.f2 a.f3 a.f3 0 x0.f4).bind fun y=>match y with
       | .ret b=>(some (b))
       | .x0=>(some (true))else none))
     (some (false)))
    (some (false)))
theorem Pp {q0:Kd}(x0:GDag)(a:GRun):Ans (uG x0 a) (fun r=>Does E 47 [.agg (GDag.t .far q0 x0),.agg (GRun.t .far a)] [T3 r]):=by
 unfold uG;apply TW<;>intro b
 ·exact TT (DP Tryz.f47 [.b true] (AC b<|AN))
 ·apply TW<;>intro c
  ·apply TW<;>intro e
   ·apply TW<;>intro g
    ·exact TT (DP Tryz.f47 [.b false,rT,rT,T8 (a.f3.length:Int),T8 (x0.f5.length:Int),.b true] (AC b<|AD (T1 (oR a.f1) c)<|AD (T1 (an a.f2 0 1000) e)<|ALn a.f3 GState.t<|ALn x0.f5 (GTask.t q0)<|AC g<|AN))
    ·refine TY (fun h => ?_);refine TX (fun y f => ?_);replace f:=NG (q0:=q0) x0.f0 x0.f1 x0.f2 x0.f3 x0.f5 a.f0 a.f1.f0 a.f1.f1 a.f2 a.f3 a.f3 0 x0.f4 rfl h y f;cases y with
     |ret d =>have i:=f;exact TT (DP Tryz.f47 [.b false,rT,rT,T8 (a.f3.length:Int),T8 (x0.f5.length:Int),.b false,T8 (a.f3.length:Int),.lp .ret (rU q0 d)] (AC b<|AD (T1 (oR a.f1) c)<|AD (T1 (an a.f2 0 1000) e)<|ALn a.f3 GState.t<|ALn x0.f5 (GTask.t q0)<|AC g<|ALn a.f3 GState.t<|AL i<|AN))
     |x0 =>have i:=f;exact TT (DP Tryz.f47 [.b false,rT,rT,T8 (a.f3.length:Int),T8 (x0.f5.length:Int),.b false,T8 (a.f3.length:Int),.lp (.exit 0) (tK q0)] (AC b<|AD (T1 (oR a.f1) c)<|AD (T1 (an a.f2 0 1000) e)<|ALn a.f3 GState.t<|ALn x0.f5 (GTask.t q0)<|AC g<|ALn a.f3 GState.t<|AL i<|AN))
   ·exact TT (DP Tryz.f47 [.b false,rT,rF] (AC b<|AD (T1 (oR a.f1) c)<|AD (T1 (an a.f2 0 1000) e)<|AN))
  ·exact TT (DP Tryz.f47 [.b false,rF] (AC b<|AD (T1 (oR a.f1) c)<|AN))
noncomputable def gt (d:GDag)(r:GRun):List GState→Nat→Bool|[],_=>true|_::l,i=>lA d r (i:Int)&&gt d r l (i+1)
noncomputable def bT (d:GDag)(r:GRun):Bool :=(r.f0.toList==d.f0.toList)&&(rG r.f1&&(ae r.f2 0 1000&&(((r.f3.length:Int)==(d.f5.length:Int))&&gt d r r.f3 0)))
theorem MI (d:GDag)(r:GRun)(h:ac.sm d)(hd:aO d=true)(b:r.f3.length=d.f5.length):∀(l:List GState)(i:Nat),r.f3.drop i=l→cI d.f0 d.f1 d.f2 d.f3 d.f5 r.f0 r.f1.f0 r.f1.f1 r.f2 r.f3 l i d.f4=some (cond (gt d r l i) .x0 (.ret false))
 |[],i,_=>rfl
 |x::l,i,a=>by
  have e:GDag.mk d.f0 d.f1 d.f2 d.f3 d.f4 d.f5=d:=rfl;have g:GRun.mk r.f0 (GSpan.mk r.f1.f0 r.f1.f1) r.f2 r.f3=r:=rfl;have j:=aB a;have k:=l3 a;have hi:0≤(i:Int)∧(i:Int)<(d.f5.length:Int):=by omega
  obtain⟨t,c,_⟩:=gU hi;have m:=MI d r h hd b l (i+1) (aq a);have n:lA d r (i:Int)=Fp x (inc t.f2) (bO d r (i:Int)).1 (ck d r (i:Int)).2:=by unfold lA;rw[j,c]
  have o:aE d r (i:Int)=((bO d r (i:Int)).1,(ck d r (i:Int)).2):=rfl;unfold cI gt;rw[n];unfold Fp;simp only[c,Ua,e,g,Ub h,Ub hd,Ub b,Ub hi,m,o];cases ae x.f0 0 4<;>cases ae x.f1 0 (inc t.f2)<;>cases ae x.f2 0 1000000000<;>cases ae x.f3 0 68374179<;>cases(decide (x.f2>0)==(x.f0==1))<;>try rfl
  cases q1:x.f0==1
  ·cases f:x.f0==2
   ·cases p:x.f0==4
    ·cases x.f0==0<;>cases(ck d r (i:Int)).2<;>rfl
    ·rw[zR p (by decide:(4:Int)≠0)];cases(ck d r (i:Int)).2<;>rfl
   ·rw[zR f (by decide:(2:Int)≠4),zR f (by decide:(2:Int)≠0)];cases(bO d r (i:Int)).1<;>rfl
  ·rw[zR q1 (by decide:(1:Int)≠4),zR q1 (by decide:(1:Int)≠0)];cases(bO d r (i:Int)).1<;>rfl
theorem MH (d:GDag)(r:GRun)(h:ac.sm d)(hd:aO d=true)(b:r.f3.length=d.f5.length):∀(l:List GState)(i:Nat),r.f3.drop i=l→kL d.f0 d.f1 d.f2 d.f3 d.f5 r.f0 r.f1.f0 r.f1.f1 r.f2 r.f3 l i d.f4=some (cond (gt d r l i) .x0 (.ret false))
 |[],i,_=>rfl
 |x::l,i,a=>by
  have e:GDag.mk d.f0 d.f1 d.f2 d.f3 d.f4 d.f5=d:=rfl;have c:GRun.mk r.f0 (GSpan.mk r.f1.f0 r.f1.f1) r.f2 r.f3=r:=rfl;have f:=l3 a;have hi:0≤(i:Int)∧(i:Int)<(d.f5.length:Int):=by omega
  unfold kL gt;simp only[e,c,Ub h,Ub hd,Ub b,Ub hi,MH d r h hd b l (i+1) (aq a)];cases lA d r (i:Int)<;>rfl
theorem Bt (d:GDag)(r:GRun)(h:ac.sm d)(hd:aO d=true):sY d r=some (bT d r)∧uG d r=some (bT d r):=by
 have b:=(tz hd).1;unfold sY uG bT;cases r.f0.toList==d.f0.toList<;>cases rG r.f1<;>cases ae r.f2 0 1000<;>try exact⟨rfl,rfl⟩
 have e:((r.f3.length:Int) != (d.f5.length:Int))= !((r.f3.length:Int)==(d.f5.length:Int)):=rfl;rw[e];cases q:((r.f3.length:Int)==(d.f5.length:Int))with
 |false=>exact⟨rfl,rfl⟩
 |true =>
  have a:r.f3.length=d.f5.length:=by rw[V6]at q;omega
  simp only[Vg,Uu,Uo,WA,UJ,Ub (show r.f3.length≤9223372036854775807 by omega),MI d r h hd a r.f3 0 rfl,MH d r h hd a r.f3 0 rfl];cases gt d r r.f3 0<;>exact⟨rfl,rfl⟩
theorem JN {d:GDag}{r:GRun}(h:bT d r=true):r.f3.length=d.f5.length:=by unfold bT at h;simp only[Ux,V6]at h;omega
theorem jD {q0:Kd}(x0:GDag)(a:GRun)(h:ac.sm x0)(hd:aO x0=true):Does E 38 [.agg (GDag.t .far q0 x0),.agg (GRun.t .far a)] [T3 (bT x0 a)]:=by exact Oo x0 a _ (Bt x0 a h hd).1
theorem ru {q0:Kd}(x0:GDag)(a:GRun)(h:ac.sm x0)(hd:aO x0=true):Does E 47 [.agg (GDag.t .far q0 x0),.agg (GRun.t .far a)] [T3 (bT x0 a)]:=by exact Pp x0 a _ (Bt x0 a h hd).2
end
end Go.Proofs.YtoanlngmbcnglaaGreatDoor.Am
