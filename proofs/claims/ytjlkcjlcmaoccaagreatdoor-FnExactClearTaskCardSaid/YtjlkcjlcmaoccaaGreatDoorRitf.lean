/- Right runs. -/
import Derived.Test.YtjlkcjlcmaoccaaGreatDoorRitb
import Derived.Test.YtjlkcjlcmaoccaaGreatDoorRitc
import Derived.Test.YtjlkcjlcmaoccaaGreatDoorRitd
import Derived.Test.YtjlkcjlcmaoccaaGreatDoorRite
namespace Go.Proofs.YtjlkcjlcmaoccaaGreatDoor.Am
open Go
set_option linter.unusedVariables false
set_option linter.unusedSimpArgs false
section
open Go.Proofs Classical
set_option maxRecDepth 100000
noncomputable def cz (v2_0 v2_1:ByteArray)(v2_2 v2_3:Int)(a:List GTask)(b:ByteArray)(c d e:Int)(f:List GState):List GState→Nat→Bool→Option yj|[],i,v2_4=>some (.x0)|hd::rest,i,v2_4=>cond (ah hd.f0 0 4) ((am a (i:Int)).bind fun g1=>cond (ah hd.f1 0 (inc g1.f2)) (cond (ah hd.f2 0 1000000000) (cond (!((decide (hd.f2>(0:Int)))==(hd.f0==(1:Int)))) (some (.ret false)) (cond (ah hd.f3 0 68374179) (if ae.sm (GDag.mk v2_0 v2_1 v2_2 v2_3 v2_4 a)then if aN (GDag.mk v2_0 v2_1 v2_2 v2_3 v2_4 a)=true then if(GRun.mk b (GSpan.mk c d) e f).f3.length=(GDag.mk v2_0 v2_1 v2_2 v2_3 v2_4 a).f5.length then if 0≤(i:Int)∧(i:Int)<((GDag.mk v2_0 v2_1 v2_2 v2_3 v2_4 a).f5.length:Int)then cond (hd.f0==(1:Int)) (cond ((aq (GDag.mk v2_0 v2_1 v2_2 v2_3 v2_4 a) (GRun.mk b (GSpan.mk c d) e f) (i:Int)).1) (cond (hd.f0==(4:Int)) (cond ((aq (GDag.mk v2_0 v2_1 v2_2 v2_3 v2_4 a) (GRun.mk b (GSpan.mk c d) e f) (i:Int)).2) (cond (hd.f0==(0:Int)) (some (.ret false)) (cz v2_0 v2_1 v2_2 v2_3 a b c d e f rest (i+1) v2_4)) (some (.ret false))) (cond (hd.f0==(0:Int)) (cond ((aq (GDag.mk v2_0 v2_1 v2_2 v2_3 v2_4 a) (GRun.mk b (GSpan.mk c d) e f) (i:Int)).2) (some (.ret false)) (cz v2_0 v2_1 v2_2 v2_3 a b c d e f rest (i+1) v2_4)) (cz v2_0 v2_1 v2_2 v2_3 a b c d e f rest (i+1) v2_4))) (some (.ret false))) (cond (hd.f0==(2:Int)) (cond ((aq (GDag.mk v2_0 v2_1 v2_2 v2_3 v2_4 a) (GRun.mk b (GSpan.mk c d) e f) (i:Int)).1) (cond (hd.f0==(4:Int)) (cond ((aq (GDag.mk v2_0 v2_1 v2_2 v2_3 v2_4 a) (GRun.mk b (GSpan.mk c d) e f) (i:Int)).2) (cond (hd.f0==(0:Int)) (some (.ret false)) (cz v2_0 v2_1 v2_2 v2_3 a b c d e f rest (i+1) v2_4)) (some (.ret false))) (cond (hd.f0==(0:Int)) (cond ((aq (GDag.mk v2_0 v2_1 v2_2 v2_3 v2_4 a) (GRun.mk b (GSpan.mk c d) e f) (i:Int)).2) (some (.ret false)) (cz v2_0 v2_1 v2_2 v2_3 a b c d e f rest (i+1) v2_4)) (cz v2_0 v2_1 v2_2 v2_3 a b c d e f rest (i+1) v2_4))) (some (.ret false))) (cond (hd.f0==(4:Int)) (cond ((aq (GDag.mk v2_0 v2_1 v2_2 v2_3 v2_4 a) (GRun.mk b (GSpan.mk c d) e f) (i:Int)).2) (cond (hd.f0==(0:Int)) (some (.ret false)) (cz v2_0 v2_1 v2_2 v2_3 a b c d e f rest (i+1) v2_4)) (some (.ret false))) (cond (hd.f0==(0:Int)) (cond ((aq (GDag.mk v2_0 v2_1 v2_2 v2_3 v2_4 a) (GRun.mk b (GSpan.mk c d) e f) (i:Int)).2) (some (.ret false)) (cz v2_0 v2_1 v2_2 v2_3 a b c d e f rest (i+1) v2_4)) (cz v2_0 v2_1 v2_2 v2_3 a b c d e f rest (i+1) v2_4))))else none else none else none else none) (some (.ret false)))) (some (.ret false))) (some (.ret false))) (some (.ret false))
theorem HB {q0:Kd}(v2_0 v2_1:ByteArray)(v2_2 v2_3:Int)(b:List GTask)(c:ByteArray)(d e f:Int)(a:List GState)(rest:List GState):∀(i:Nat)(v2_4:Bool),(a).drop i=rest→a.length≤9223372036854775807→Ans (cz v2_0 v2_1 v2_2 v2_3 b c d e f a rest i v2_4) (HC (q0:=q0) v2_0 v2_1 v2_2 v2_3 v2_4 b c d e f a (i:Int)):=by
 induction rest with
 |nil =>intro i v2_4 D z;have hb:=aZ D;unfold cz;exact OO (OQ (show az (an q0 v2_0 v2_1 v2_2 v2_3 v2_4 b c d e f a (i:Int)) (.exit 0) (mT q0)from BY (q0:=q0) v2_0 v2_1 v2_2 v2_3 v2_4 b c d e f a (i:Int) hb) (by intro h;cases h))
 |cons hd rest B =>
  intro i v2_4 D z;have hb:=aT D;have C:=aU D z;have w:=aE D;have m:=aW D;unfold cz;apply OR<;>intro n
  ·refine OS (fun g1 o => ?_);apply OR<;>intro p
   ·apply OR<;>intro q
    ·apply OR<;>intro s
     ·exact OO (OQ (show az (an q0 v2_0 v2_1 v2_2 v2_3 v2_4 b c d e f a (i:Int)) .ret (aD q0 false)from Dz (q0:=q0) v2_0 v2_1 v2_2 v2_3 v2_4 b c d e f a (i:Int) hd g1 hb m n o p q s) (by intro h;cases h))
     ·apply OR<;>intro t
      ·refine OT (fun u => ?_);refine OT (fun v => ?_);refine OT (fun j => ?_);refine OT (fun k => ?_);apply OR<;>intro f1
       ·apply OR<;>intro g
        ·apply OR<;>intro f2
         ·apply OR<;>intro l
          ·apply OR<;>intro A
           ·exact OO (OQ (show az (an q0 v2_0 v2_1 v2_2 v2_3 v2_4 b c d e f a (i:Int)) .ret (aD q0 false)from DA (q0:=q0) v2_0 v2_1 v2_2 v2_3 v2_4 b c d e f a (i:Int) hd g1 hb m n o p q s t u v j k g l f1 f2 A) (by intro h;cases h))
           ·exact(B (i+1) v2_4 w z).mono fun y x=>by have r:az (an q0 v2_0 v2_1 v2_2 v2_3 v2_4 b c d e f a (i:Int)) .normal (an q0 v2_0 v2_1 v2_2 v2_3 v2_4 b c d e f a (inc (i:Int))):=DB (q0:=q0) v2_0 v2_1 v2_2 v2_3 v2_4 b c d e f a (i:Int) hd g1 hb m n o p q s t u v j k g l f1 f2 A;rw[C]at r;cases y<;>exact OP r x
          ·exact OO (OQ (show az (an q0 v2_0 v2_1 v2_2 v2_3 v2_4 b c d e f a (i:Int)) .ret (aD q0 false)from DC (q0:=q0) v2_0 v2_1 v2_2 v2_3 v2_4 b c d e f a (i:Int) hd g1 hb m n o p q s t u v j k g l f1 f2) (by intro h;cases h))
         ·apply OR<;>intro f3
          ·apply OR<;>intro l
           ·exact OO (OQ (show az (an q0 v2_0 v2_1 v2_2 v2_3 v2_4 b c d e f a (i:Int)) .ret (aD q0 false)from DD (q0:=q0) v2_0 v2_1 v2_2 v2_3 v2_4 b c d e f a (i:Int) hd g1 hb m n o p q s t u v j k g l f1 f2 f3) (by intro h;cases h))
           ·exact(B (i+1) v2_4 w z).mono fun y x=>by have r:az (an q0 v2_0 v2_1 v2_2 v2_3 v2_4 b c d e f a (i:Int)) .normal (an q0 v2_0 v2_1 v2_2 v2_3 v2_4 b c d e f a (inc (i:Int))):=DE (q0:=q0) v2_0 v2_1 v2_2 v2_3 v2_4 b c d e f a (i:Int) hd g1 hb m n o p q s t u v j k g l f1 f2 f3;rw[C]at r;cases y<;>exact OP r x
          ·exact(B (i+1) v2_4 w z).mono fun y x=>by have r:az (an q0 v2_0 v2_1 v2_2 v2_3 v2_4 b c d e f a (i:Int)) .normal (an q0 v2_0 v2_1 v2_2 v2_3 v2_4 b c d e f a (inc (i:Int))):=DF (q0:=q0) v2_0 v2_1 v2_2 v2_3 v2_4 b c d e f a (i:Int) hd g1 hb m n o p q s t u v j k g f1 f2 f3;rw[C]at r;cases y<;>exact OP r x
        ·exact OO (OQ (show az (an q0 v2_0 v2_1 v2_2 v2_3 v2_4 b c d e f a (i:Int)) .ret (aD q0 false)from DG (q0:=q0) v2_0 v2_1 v2_2 v2_3 v2_4 b c d e f a (i:Int) hd g1 hb m n o p q s t u v j k g f1) (by intro h;cases h))
       ·apply OR<;>intro f4
        ·apply OR<;>intro g
         ·apply OR<;>intro f5
          ·apply OR<;>intro l
           ·apply OR<;>intro F
            ·exact OO (OQ (show az (an q0 v2_0 v2_1 v2_2 v2_3 v2_4 b c d e f a (i:Int)) .ret (aD q0 false)from DH (q0:=q0) v2_0 v2_1 v2_2 v2_3 v2_4 b c d e f a (i:Int) hd g1 hb m n o p q s t u v j k g l f1 f4 f5 F) (by intro h;cases h))
            ·exact(B (i+1) v2_4 w z).mono fun y x=>by have r:az (an q0 v2_0 v2_1 v2_2 v2_3 v2_4 b c d e f a (i:Int)) .normal (an q0 v2_0 v2_1 v2_2 v2_3 v2_4 b c d e f a (inc (i:Int))):=DI (q0:=q0) v2_0 v2_1 v2_2 v2_3 v2_4 b c d e f a (i:Int) hd g1 hb m n o p q s t u v j k g l f1 f4 f5 F;rw[C]at r;cases y<;>exact OP r x
           ·exact OO (OQ (show az (an q0 v2_0 v2_1 v2_2 v2_3 v2_4 b c d e f a (i:Int)) .ret (aD q0 false)from BJ (q0:=q0) v2_0 v2_1 v2_2 v2_3 v2_4 b c d e f a (i:Int) hd g1 hb m n o p q s t u v j k g l f1 f4 f5) (by intro h;cases h))
          ·apply OR<;>intro f6
           ·apply OR<;>intro l
            ·exact OO (OQ (show az (an q0 v2_0 v2_1 v2_2 v2_3 v2_4 b c d e f a (i:Int)) .ret (aD q0 false)from BK (q0:=q0) v2_0 v2_1 v2_2 v2_3 v2_4 b c d e f a (i:Int) hd g1 hb m n o p q s t u v j k g l f1 f4 f5 f6) (by intro h;cases h))
            ·exact(B (i+1) v2_4 w z).mono fun y x=>by have r:az (an q0 v2_0 v2_1 v2_2 v2_3 v2_4 b c d e f a (i:Int)) .normal (an q0 v2_0 v2_1 v2_2 v2_3 v2_4 b c d e f a (inc (i:Int))):=BL (q0:=q0) v2_0 v2_1 v2_2 v2_3 v2_4 b c d e f a (i:Int) hd g1 hb m n o p q s t u v j k g l f1 f4 f5 f6;rw[C]at r;cases y<;>exact OP r x
           ·exact(B (i+1) v2_4 w z).mono fun y x=>by have r:az (an q0 v2_0 v2_1 v2_2 v2_3 v2_4 b c d e f a (i:Int)) .normal (an q0 v2_0 v2_1 v2_2 v2_3 v2_4 b c d e f a (inc (i:Int))):=BM (q0:=q0) v2_0 v2_1 v2_2 v2_3 v2_4 b c d e f a (i:Int) hd g1 hb m n o p q s t u v j k g f1 f4 f5 f6;rw[C]at r;cases y<;>exact OP r x
         ·exact OO (OQ (show az (an q0 v2_0 v2_1 v2_2 v2_3 v2_4 b c d e f a (i:Int)) .ret (aD q0 false)from BN (q0:=q0) v2_0 v2_1 v2_2 v2_3 v2_4 b c d e f a (i:Int) hd g1 hb m n o p q s t u v j k g f1 f4) (by intro h;cases h))
        ·apply OR<;>intro f7
         ·apply OR<;>intro g
          ·apply OR<;>intro A
           ·exact OO (OQ (show az (an q0 v2_0 v2_1 v2_2 v2_3 v2_4 b c d e f a (i:Int)) .ret (aD q0 false)from BO (q0:=q0) v2_0 v2_1 v2_2 v2_3 v2_4 b c d e f a (i:Int) hd g1 hb m n o p q s t u v j k g f1 f4 f7 A) (by intro h;cases h))
           ·exact(B (i+1) v2_4 w z).mono fun y x=>by have r:az (an q0 v2_0 v2_1 v2_2 v2_3 v2_4 b c d e f a (i:Int)) .normal (an q0 v2_0 v2_1 v2_2 v2_3 v2_4 b c d e f a (inc (i:Int))):=BP (q0:=q0) v2_0 v2_1 v2_2 v2_3 v2_4 b c d e f a (i:Int) hd g1 hb m n o p q s t u v j k g f1 f4 f7 A;rw[C]at r;cases y<;>exact OP r x
          ·exact OO (OQ (show az (an q0 v2_0 v2_1 v2_2 v2_3 v2_4 b c d e f a (i:Int)) .ret (aD q0 false)from BQ (q0:=q0) v2_0 v2_1 v2_2 v2_3 v2_4 b c d e f a (i:Int) hd g1 hb m n o p q s t u v j k g f1 f4 f7) (by intro h;cases h))
         ·apply OR<;>intro f8
          ·apply OR<;>intro g
           ·exact OO (OQ (show az (an q0 v2_0 v2_1 v2_2 v2_3 v2_4 b c d e f a (i:Int)) .ret (aD q0 false)from BR (q0:=q0) v2_0 v2_1 v2_2 v2_3 v2_4 b c d e f a (i:Int) hd g1 hb m n o p q s t u v j k g f1 f4 f7 f8) (by intro h;cases h))
           ·exact(B (i+1) v2_4 w z).mono fun y x=>by have r:az (an q0 v2_0 v2_1 v2_2 v2_3 v2_4 b c d e f a (i:Int)) .normal (an q0 v2_0 v2_1 v2_2 v2_3 v2_4 b c d e f a (inc (i:Int))):=BS (q0:=q0) v2_0 v2_1 v2_2 v2_3 v2_4 b c d e f a (i:Int) hd g1 hb m n o p q s t u v j k g f1 f4 f7 f8;rw[C]at r;cases y<;>exact OP r x
          ·exact(B (i+1) v2_4 w z).mono fun y x=>by have r:az (an q0 v2_0 v2_1 v2_2 v2_3 v2_4 b c d e f a (i:Int)) .normal (an q0 v2_0 v2_1 v2_2 v2_3 v2_4 b c d e f a (inc (i:Int))):=BT (q0:=q0) v2_0 v2_1 v2_2 v2_3 v2_4 b c d e f a (i:Int) hd g1 hb m n o p q s t u v j k f1 f4 f7 f8;rw[C]at r;cases y<;>exact OP r x
      ·exact OO (OQ (show az (an q0 v2_0 v2_1 v2_2 v2_3 v2_4 b c d e f a (i:Int)) .ret (aD q0 false)from BU (q0:=q0) v2_0 v2_1 v2_2 v2_3 v2_4 b c d e f a (i:Int) hd g1 hb m n o p q s t) (by intro h;cases h))
    ·exact OO (OQ (show az (an q0 v2_0 v2_1 v2_2 v2_3 v2_4 b c d e f a (i:Int)) .ret (aD q0 false)from BV (q0:=q0) v2_0 v2_1 v2_2 v2_3 v2_4 b c d e f a (i:Int) hd g1 hb m n o p q) (by intro h;cases h))
   ·exact OO (OQ (show az (an q0 v2_0 v2_1 v2_2 v2_3 v2_4 b c d e f a (i:Int)) .ret (aD q0 false)from BW (q0:=q0) v2_0 v2_1 v2_2 v2_3 v2_4 b c d e f a (i:Int) hd g1 hb m n o p) (by intro h;cases h))
  ·exact OO (OQ (show az (an q0 v2_0 v2_1 v2_2 v2_3 v2_4 b c d e f a (i:Int)) .ret (aD q0 false)from BX (q0:=q0) v2_0 v2_1 v2_2 v2_3 v2_4 b c d e f a (i:Int) hd hb m n) (by intro h;cases h))
noncomputable def qt (x0:GDag)(a:GRun):Option (Bool):=
  cond (!(a.f0.toList==x0.f0.toList))
   (some (false))
   (cond (pz a.f1)
    (cond (ah a.f2 0 1000)
     (cond ((a.f3.length:Int) != (x0.f5.length:Int))
      (some (false))
      (if a.f3.length≤9223372036854775807 then(cz x0.f0 x0.f1 x0.f2 x0.f3 x0.f5 a.f0 a.f1.f0 a.f1.f1 a.f2 a.f3 a.f3 0 x0.f4).bind fun y=>match y with
       | .ret b=>(some (b))
       | .x0=>(some (true))else none))
     (some (false)))
    (some (false)))
theorem JO {q0:Kd}(x0:GDag)(a:GRun):Ans (qt x0 a) (fun r=>Does E 41 [.agg (GDag.t .far q0 x0),.agg (GRun.t .far a)] [OY r]):=by
 unfold qt;apply OR<;>intro b
 ·exact OO (DP Tryz.f41 [.b true] (AC b<|AN))
 ·apply OR<;>intro c
  ·apply OR<;>intro e
   ·apply OR<;>intro g
    ·exact OO (DP Tryz.f41 [.b false,rT,rT,O3 (a.f3.length:Int),O3 (x0.f5.length:Int),.b true] (AC b<|AD (OW (mn a.f1) c)<|AD (OW (ai a.f2 0 1000) e)<|ALn a.f3 GState.t<|ALn x0.f5 (GTask.t q0)<|AC g<|AN))
    ·refine OT (fun h => ?_);refine OS (fun y f => ?_);replace f:=HB (q0:=q0) x0.f0 x0.f1 x0.f2 x0.f3 x0.f5 a.f0 a.f1.f0 a.f1.f1 a.f2 a.f3 a.f3 0 x0.f4 rfl h y f;cases y with
     |ret d =>have i:=f;exact OO (DP Tryz.f41 [.b false,rT,rT,O3 (a.f3.length:Int),O3 (x0.f5.length:Int),.b false,.lp .ret (aD q0 d)] (AC b<|AD (OW (mn a.f1) c)<|AD (OW (ai a.f2 0 1000) e)<|ALn a.f3 GState.t<|ALn x0.f5 (GTask.t q0)<|AC g<|AL i<|AN))
     |x0 =>have i:=f;exact OO (DP Tryz.f41 [.b false,rT,rT,O3 (a.f3.length:Int),O3 (x0.f5.length:Int),.b false,.lp (.exit 0) (mT q0)] (AC b<|AD (OW (mn a.f1) c)<|AD (OW (ai a.f2 0 1000) e)<|ALn a.f3 GState.t<|ALn x0.f5 (GTask.t q0)<|AC g<|AL i<|AN))
   ·exact OO (DP Tryz.f41 [.b false,rT,rF] (AC b<|AD (OW (mn a.f1) c)<|AD (OW (ai a.f2 0 1000) e)<|AN))
  ·exact OO (DP Tryz.f41 [.b false,rF] (AC b<|AD (OW (mn a.f1) c)<|AN))
def JS (x:GState)(m:Int)(done a:Bool):Bool :=ah x.f0 0 4&&(ah x.f1 0 m&&(ah x.f2 0 1000000000&&((decide (x.f2>0)==(x.f0==1))&&(ah x.f3 0 68374179&&(cond (x.f0==1 ||x.f0==2) done (cond (x.f0==4) a (cond (x.f0==0) (!a) true)))))))
noncomputable def nt (d:GDag)(r:GRun)(i:Int):Bool:=match am r.f3 i,am d.f5 i with
 |some x,some t=>JS x (inc t.f2) (bE d r i).1 (aR d r i).2
 |_,_=>false
theorem wQ {x:Int}{a b:Int}(h:(x==a)=true)(c:a≠b):(x==b)=false:=by rw[QM]at h;rw[P8];omega
theorem Lq (d:GDag)(r:GRun)(i:Int)(h:ae.sm d)(hd:aN d=true)(a:r.f3.length=d.f5.length)(hi:0≤i∧i<(d.f5.length:Int)):o9 d r i=some (nt d r i):=by
 obtain⟨t,b,_⟩:=eO hi;obtain⟨x,c,_⟩:=eO (l:=r.f3) (k:=i) (by omega);unfold o9 nt JS;simp only[b,c,O5,O6 h,O6 hd,O6 a,O6 hi];cases ah x.f0 0 4<;>cases ah x.f1 0 (inc t.f2)<;>cases ah x.f2 0 1000000000<;>cases ah x.f3 0 68374179<;>cases(decide (x.f2>0)==(x.f0==1))<;>try rfl
 cases x.f0==1<;>cases x.f0==2<;>cases x.f0==4<;>cases x.f0==0<;>rfl
theorem xC {q0:Kd}(x0:GDag)(a:GRun)(x2:Int)(h:ae.sm x0)(hd:aN x0=true)(b:a.f3.length=x0.f5.length)(hi:0≤x2∧x2<(x0.f5.length:Int)):Does E 72 [.agg (GDag.t .far q0 x0),.agg (GRun.t .far a),O0 x2] [OY (nt x0 a x2)]:=by exact G4 x0 a x2 _ (Lq x0 a x2 h hd b hi)
inductive zU where|ret (v4:Bool)|x0
def lI (q0:Kd)(v2_0 v2_1:ByteArray)(v2_2 v2_3:Int)(v2_4:Bool)(a:List GTask)(b:ByteArray)(c d e:Int)(f:List GState)(g h:Int):US:=stL 44 [(2,.box () [tS v2_0,tS v2_1,tI v2_2,tI v2_3,tB v2_4,.s .far () 5 (a.map (GTask.t q0))]),(3,.box () [tS b,tI c,tI d,tI e,.s .far () 4 (f.map GState.t)]),(34,O0 g),(35,O0 h)]
def pI (q0:Kd)(a:Bool):US:=stL 44 [(4,O1 a)]
def qV (q0:Kd)  : US:=stL 44 []
abbrev ut:US→Exit→US→Prop:=Round E 48 (av Tryz.f48 0)
def Jk {q0:Kd}(v2_0 v2_1:ByteArray)(v2_2 v2_3:Int)(v2_4:Bool)(a:List GTask)(b:ByteArray)(c d e:Int)(f:List GState)(g h:Int):zU→Prop| .ret i=>Loops E 48 (av Tryz.f48 0) (lI q0 v2_0 v2_1 v2_2 v2_3 v2_4 a b c d e f g h) .ret (pI q0 i)| .x0=>Loops E 48 (av Tryz.f48 0) (lI q0 v2_0 v2_1 v2_2 v2_3 v2_4 a b c d e f g h) (.exit 0) (qV q0)
noncomputable def jY (v2_0 v2_1:ByteArray)(v2_2 v2_3:Int)(a:List GTask)(b:ByteArray)(c d e:Int)(f:List GState):List GState→Nat→Bool→Option zU|[],i,v2_4=>some (.x0)|hd::rest,i,v2_4=>if ae.sm (GDag.mk v2_0 v2_1 v2_2 v2_3 v2_4 a)then if aN (GDag.mk v2_0 v2_1 v2_2 v2_3 v2_4 a)=true then if(GRun.mk b (GSpan.mk c d) e f).f3.length=(GDag.mk v2_0 v2_1 v2_2 v2_3 v2_4 a).f5.length then if 0≤(i:Int)∧(i:Int)<((GDag.mk v2_0 v2_1 v2_2 v2_3 v2_4 a).f5.length:Int)then cond (nt (GDag.mk v2_0 v2_1 v2_2 v2_3 v2_4 a) (GRun.mk b (GSpan.mk c d) e f) (i:Int)) (jY v2_0 v2_1 v2_2 v2_3 a b c d e f rest (i+1) v2_4) (some (.ret false))else none else none else none else none
theorem Jj {q0:Kd}(v2_0 v2_1:ByteArray)(v2_2 v2_3:Int)(b:List GTask)(c:ByteArray)(d e f:Int)(a:List GState)(rest:List GState):∀(i:Nat)(v2_4:Bool),(a).drop i=rest→a.length≤9223372036854775807→Ans (jY v2_0 v2_1 v2_2 v2_3 b c d e f a rest i v2_4) (Jk (q0:=q0) v2_0 v2_1 v2_2 v2_3 v2_4 b c d e f a (a.length:Int) (i:Int)):=by
 induction rest with
 |nil =>intro i v2_4 g j;have hb:=aZ g;unfold jY;exact OO (OQ (show ut (lI q0 v2_0 v2_1 v2_2 v2_3 v2_4 b c d e f a (a.length:Int) (i:Int)) (.exit 0) (qV q0)from RP [.b false] (AC hb<|AN)) (by intro h;cases h))
 |cons hd rest s =>
  intro i v2_4 g j;have hb:=aT g;have u:=aU g j;have l:=aE g;have w:=aW g;unfold jY;refine OT (fun m => ?_);refine OT (fun n => ?_);refine OT (fun o => ?_);refine OT (fun p => ?_);apply OR<;>intro q
  ·exact(s (i+1) v2_4 l j).mono fun y v=>by have r:ut (lI q0 v2_0 v2_1 v2_2 v2_3 v2_4 b c d e f a (a.length:Int) (i:Int)) .normal (lI q0 v2_0 v2_1 v2_2 v2_3 v2_4 b c d e f a (a.length:Int) (inc (i:Int))):=RP [.b true,rT] (AC hb<|AV (ψ:=fun k=>E.C k 72 [.agg (GDag.t .far q0 (GDag.mk v2_0 v2_1 v2_2 v2_3 v2_4 b)),.agg (GRun.t .far (GRun.mk c (GSpan.mk d e) f a)),O0 (i:Int)]=some [OY true]) (OU (xC (GDag.mk v2_0 v2_1 v2_2 v2_3 v2_4 b) (GRun.mk c (GSpan.mk d e) f a) (i:Int) m n o p) (by rw[q]))<|AN);rw[u]at r;cases y<;>exact OP r v
  ·exact OO (OQ (show ut (lI q0 v2_0 v2_1 v2_2 v2_3 v2_4 b c d e f a (a.length:Int) (i:Int)) .ret (pI q0 false)from RP [.b true,rF] (AC hb<|AV (ψ:=fun k=>E.C k 72 [.agg (GDag.t .far q0 (GDag.mk v2_0 v2_1 v2_2 v2_3 v2_4 b)),.agg (GRun.t .far (GRun.mk c (GSpan.mk d e) f a)),O0 (i:Int)]=some [OY false]) (OU (xC (GDag.mk v2_0 v2_1 v2_2 v2_3 v2_4 b) (GRun.mk c (GSpan.mk d e) f a) (i:Int) m n o p) (by rw[q]))<|AN)) (by intro h;cases h))
noncomputable def rO (x0:GDag)(a:GRun):Option (Bool):=
  cond (!(a.f0.toList==x0.f0.toList))
   (some (false))
   (cond (pz a.f1)
    (cond (ah a.f2 0 1000)
     (cond ((a.f3.length:Int) != (x0.f5.length:Int))
      (some (false))
      (if a.f3.length≤9223372036854775807 then(jY x0.f0 x0.f1 x0.f2 x0.f3 x0.f5 a.f0 a.f1.f0 a.f1.f1 a.f2 a.f3 a.f3 0 x0.f4).bind fun y=>match y with
       | .ret b=>(some (b))
       | .x0=>(some (true))else none))
     (some (false)))
    (some (false)))
theorem KJ {q0:Kd}(x0:GDag)(a:GRun):Ans (rO x0 a) (fun r=>Does E 48 [.agg (GDag.t .far q0 x0),.agg (GRun.t .far a)] [OY r]):=by
 unfold rO;apply OR<;>intro b
 ·exact OO (DP Tryz.f48 [.b true] (AC b<|AN))
 ·apply OR<;>intro c
  ·apply OR<;>intro e
   ·apply OR<;>intro g
    ·exact OO (DP Tryz.f48 [.b false,rT,rT,O3 (a.f3.length:Int),O3 (x0.f5.length:Int),.b true] (AC b<|AD (OW (ny a.f1) c)<|AD (OW (aA a.f2 0 1000) e)<|ALn a.f3 GState.t<|ALn x0.f5 (GTask.t q0)<|AC g<|AN))
    ·refine OT (fun h => ?_);refine OS (fun y f => ?_);replace f:=Jj (q0:=q0) x0.f0 x0.f1 x0.f2 x0.f3 x0.f5 a.f0 a.f1.f0 a.f1.f1 a.f2 a.f3 a.f3 0 x0.f4 rfl h y f;cases y with
     |ret d =>have i:=f;exact OO (DP Tryz.f48 [.b false,rT,rT,O3 (a.f3.length:Int),O3 (x0.f5.length:Int),.b false,O3 (a.f3.length:Int),.lp .ret (pI q0 d)] (AC b<|AD (OW (ny a.f1) c)<|AD (OW (aA a.f2 0 1000) e)<|ALn a.f3 GState.t<|ALn x0.f5 (GTask.t q0)<|AC g<|ALn a.f3 GState.t<|AL i<|AN))
     |x0 =>have i:=f;exact OO (DP Tryz.f48 [.b false,rT,rT,O3 (a.f3.length:Int),O3 (x0.f5.length:Int),.b false,O3 (a.f3.length:Int),.lp (.exit 0) (qV q0)] (AC b<|AD (OW (ny a.f1) c)<|AD (OW (aA a.f2 0 1000) e)<|ALn a.f3 GState.t<|ALn x0.f5 (GTask.t q0)<|AC g<|ALn a.f3 GState.t<|AL i<|AN))
   ·exact OO (DP Tryz.f48 [.b false,rT,rF] (AC b<|AD (OW (ny a.f1) c)<|AD (OW (aA a.f2 0 1000) e)<|AN))
  ·exact OO (DP Tryz.f48 [.b false,rF] (AC b<|AD (OW (ny a.f1) c)<|AN))
noncomputable def jd (d:GDag)(r:GRun):List GState→Nat→Bool|[],_=>true|_::l,i=>nt d r (i:Int)&&jd d r l (i+1)
noncomputable def fp (d:GDag)(r:GRun):Bool :=(r.f0.toList==d.f0.toList)&&(pz r.f1&&(ah r.f2 0 1000&&(((r.f3.length:Int)==(d.f5.length:Int))&&jd d r r.f3 0)))
theorem Ic (d:GDag)(r:GRun)(h:ae.sm d)(hd:aN d=true)(b:r.f3.length=d.f5.length):∀(l:List GState)(i:Nat),r.f3.drop i=l→cz d.f0 d.f1 d.f2 d.f3 d.f5 r.f0 r.f1.f0 r.f1.f1 r.f2 r.f3 l i d.f4=some (cond (jd d r l i) .x0 (.ret false))
 |[],i,_=>rfl
 |x::l,i,a=>by
  have e:GDag.mk d.f0 d.f1 d.f2 d.f3 d.f4 d.f5=d:=rfl;have g:GRun.mk r.f0 (GSpan.mk r.f1.f0 r.f1.f1) r.f2 r.f3=r:=rfl;have j:=aW a;have k:=mq a;have hi:0≤(i:Int)∧(i:Int)<(d.f5.length:Int):=by omega
  obtain⟨t,c,_⟩:=eO hi;have m:=Ic d r h hd b l (i+1) (aE a);have n:nt d r (i:Int)=JS x (inc t.f2) (bE d r (i:Int)).1 (aR d r (i:Int)).2:=by unfold nt;rw[j,c]
  have o:aq d r (i:Int)=((bE d r (i:Int)).1,(aR d r (i:Int)).2):=rfl;unfold cz jd;rw[n];unfold JS;simp only[c,O5,e,g,O6 h,O6 hd,O6 b,O6 hi,m,o];cases ah x.f0 0 4<;>cases ah x.f1 0 (inc t.f2)<;>cases ah x.f2 0 1000000000<;>cases ah x.f3 0 68374179<;>cases(decide (x.f2>0)==(x.f0==1))<;>try rfl
  cases q1:x.f0==1
  ·cases f:x.f0==2
   ·cases p:x.f0==4
    ·cases x.f0==0<;>cases(aR d r (i:Int)).2<;>rfl
    ·rw[wQ p (by decide:(4:Int)≠0)];cases(aR d r (i:Int)).2<;>rfl
   ·rw[wQ f (by decide:(2:Int)≠4),wQ f (by decide:(2:Int)≠0)];cases(bE d r (i:Int)).1<;>rfl
  ·rw[wQ q1 (by decide:(1:Int)≠4),wQ q1 (by decide:(1:Int)≠0)];cases(bE d r (i:Int)).1<;>rfl
theorem Ib (d:GDag)(r:GRun)(h:ae.sm d)(hd:aN d=true)(b:r.f3.length=d.f5.length):∀(l:List GState)(i:Nat),r.f3.drop i=l→jY d.f0 d.f1 d.f2 d.f3 d.f5 r.f0 r.f1.f0 r.f1.f1 r.f2 r.f3 l i d.f4=some (cond (jd d r l i) .x0 (.ret false))
 |[],i,_=>rfl
 |x::l,i,a=>by
  have e:GDag.mk d.f0 d.f1 d.f2 d.f3 d.f4 d.f5=d:=rfl;have c:GRun.mk r.f0 (GSpan.mk r.f1.f0 r.f1.f1) r.f2 r.f3=r:=rfl;have f:=mq a;have hi:0≤(i:Int)∧(i:Int)<(d.f5.length:Int):=by omega
  unfold jY jd;simp only[e,c,O6 h,O6 hd,O6 b,O6 hi,Ib d r h hd b l (i+1) (aE a)];cases nt d r (i:Int)<;>rfl
theorem yc (d:GDag)(r:GRun)(h:ae.sm d)(hd:aN d=true):qt d r=some (fp d r)∧rO d r=some (fp d r):=by
 have b:=(oz hd).1;unfold qt rO fp;cases r.f0.toList==d.f0.toList<;>cases pz r.f1<;>cases ah r.f2 0 1000<;>try exact⟨rfl,rfl⟩
 have e:((r.f3.length:Int) != (d.f5.length:Int))= !((r.f3.length:Int)==(d.f5.length:Int)):=rfl;rw[e];cases q:((r.f3.length:Int)==(d.f5.length:Int))with
 |false=>exact⟨rfl,rfl⟩
 |true =>
  have a:r.f3.length=d.f5.length:=by rw[QM]at q;omega
  simp only[Qu,Pt,Pk,Rr,PJ,O6 (show r.f3.length≤9223372036854775807 by omega),Ic d r h hd a r.f3 0 rfl,Ib d r h hd a r.f3 0 rfl];cases jd d r r.f3 0<;>exact⟨rfl,rfl⟩
theorem FK {d:GDag}{r:GRun}(h:fp d r=true):r.f3.length=d.f5.length:=by unfold fp at h;simp only[PA,QM]at h;omega
theorem Ir {q0:Kd}(x0:GDag)(a:GRun)(h:ae.sm x0)(hd:aN x0=true):Does E 41 [.agg (GDag.t .far q0 x0),.agg (GRun.t .far a)] [OY (fp x0 a)]:=by exact JO x0 a _ (yc x0 a h hd).1
theorem J3 {q0:Kd}(x0:GDag)(a:GRun)(h:ae.sm x0)(hd:aN x0=true):Does E 48 [.agg (GDag.t .far q0 x0),.agg (GRun.t .far a)] [OY (fp x0 a)]:=by exact KJ x0 a _ (yc x0 a h hd).2
noncomputable def rZ (x0:GDag)(a:GRun):Option (Bool):=if ae.sm x0 then cond (aN x0) (if aN x0=true then some (fp x0 a)else none) (some (false))else none
theorem Li {q0:Kd}(x0:GDag)(a:GRun):Ans (rZ x0 a) (fun r=>Does E 17 [.agg (GDag.t .far q0 x0),.agg (GRun.t .far a)] [OY r]):=by
 unfold rZ;refine OT (fun b => ?_);apply OR<;>intro c
 ·refine OT (fun d => ?_);exact OO (DP Tryz.f17 [rT,.ret [OY (fp x0 a)]] (AV (ψ:=fun k=>E.C k 40 [.agg (GDag.t .far q0 x0)]=some [OY true]) (OU (jJ x0 b) (by rw[c]))<|AV (ψ:=fun k=>E.C k 41 [.agg (GDag.t .far q0 x0),.agg (GRun.t .far a)]=some [OY (fp x0 a)]) (Ir x0 a b d)<|AN))
 ·exact OO (DP Tryz.f17 [rF] (AV (ψ:=fun k=>E.C k 40 [.agg (GDag.t .far q0 x0)]=some [OY false]) (OU (jJ x0 b) (by rw[c]))<|AN))
noncomputable def rK (x0:GDag)(a:GRun):Option (Bool):=if ae.sm x0 then cond (aN x0) (if aN x0=true then some (fp x0 a)else none) (some (false))else none
theorem KF {q0:Kd}(x0:GDag)(a:GRun):Ans (rK x0 a) (fun r=>Does E 27 [.agg (GDag.t .far q0 x0),.agg (GRun.t .far a)] [OY r]):=by
 unfold rK;refine OT (fun b => ?_);apply OR<;>intro c
 ·refine OT (fun d => ?_);exact OO (DP Tryz.f27 [rT,.ret [OY (fp x0 a)]] (AV (ψ:=fun k=>E.C k 47 [.agg (GDag.t .far q0 x0)]=some [OY true]) (OU (B8 x0 b) (by rw[c]))<|AV (ψ:=fun k=>E.C k 48 [.agg (GDag.t .far q0 x0),.agg (GRun.t .far a)]=some [OY (fp x0 a)]) (J3 x0 a b d)<|AN))
 ·exact OO (DP Tryz.f27 [rF] (AV (ψ:=fun k=>E.C k 47 [.agg (GDag.t .far q0 x0)]=some [OY false]) (OU (B8 x0 b) (by rw[c]))<|AN))
noncomputable def of (d:GDag)(r:GRun):Bool:=aN d&&fp d r
theorem FJ (d:GDag)(r:GRun)(h:ae.sm d):rZ d r=some (of d r)∧rK d r=some (of d r):=by
 unfold rZ rK of;cases aN d
 ·refine⟨?_,?_⟩<;>simp only[O6 h]<;>rfl
 ·refine⟨?_,?_⟩<;>simp only[O6 h,PK]<;>rfl
theorem kW {q0:Kd}(x0:GDag)(a:GRun)(h:ae.sm x0):Does E 17 [.agg (GDag.t .far q0 x0),.agg (GRun.t .far a)] [OY (of x0 a)]:=by exact Li x0 a _ (FJ x0 a h).1
theorem rz {q0:Kd}(x0:GDag)(a:GRun)(h:ae.sm x0):Does E 27 [.agg (GDag.t .far q0 x0),.agg (GRun.t .far a)] [OY (of x0 a)]:=by exact KF x0 a _ (FJ x0 a h).2
end
end Go.Proofs.YtjlkcjlcmaoccaaGreatDoor.Am
