/- Right runs of a board, a part. -/
import Derived.Test.YtjikhkndmohepaaGreatDoorRitb
import Derived.Test.YtjikhkndmohepaaGreatDoorRitc
import Derived.Test.YtjikhkndmohepaaGreatDoorRitd
import Derived.Test.YtjikhkndmohepaaGreatDoorOrdf
namespace Go.Proofs.YtjikhkndmohepaaGreatDoor.Am
open Go
set_option linter.unusedVariables false
set_option linter.unusedSimpArgs false
section
open Go.Proofs Classical
set_option maxRecDepth 100000
noncomputable def cR (v2_0 v2_1:Y9)(v2_2 v2_3:Int)(a:List GTask)(b:Y9)(c d e:Int)(f:List GState):List GState→Nat→Bool→Option CF|[],i,v2_4=>some (.x0)|hd::rest,i,v2_4=>cond (ag hd.f0 0 4) ((ak a (i:Int)).bind fun g1=>cond (ag hd.f1 0 (inc g1.f2)) (cond (ag hd.f2 0 1000000000) (cond (!((decide (hd.f2>(0:Int)))==(hd.f0==(1:Int)))) (some (.ret false)) (cond (ag hd.f3 0 68374179) (if ab.sm (GDag.mk v2_0 v2_1 v2_2 v2_3 v2_4 a)then if aH (GDag.mk v2_0 v2_1 v2_2 v2_3 v2_4 a)=true then if(GRun.mk b (GSpan.mk c d) e f).f3.length=(GDag.mk v2_0 v2_1 v2_2 v2_3 v2_4 a).f5.length then if 0≤(i:Int)∧(i:Int)<((GDag.mk v2_0 v2_1 v2_2 v2_3 v2_4 a).f5.length:Int)then cond (hd.f0==(1:Int)) (cond ((aq (GDag.mk v2_0 v2_1 v2_2 v2_3 v2_4 a) (GRun.mk b (GSpan.mk c d) e f) (i:Int)).1) (cond (hd.f0==(4:Int)) (cond ((aq (GDag.mk v2_0 v2_1 v2_2 v2_3 v2_4 a) (GRun.mk b (GSpan.mk c d) e f) (i:Int)).2) (cond (hd.f0==(0:Int)) (some (.ret false)) (cR v2_0 v2_1 v2_2 v2_3 a b c d e f rest (i+1) v2_4)) (some (.ret false))) (cond (hd.f0==(0:Int)) (cond ((aq (GDag.mk v2_0 v2_1 v2_2 v2_3 v2_4 a) (GRun.mk b (GSpan.mk c d) e f) (i:Int)).2) (some (.ret false)) (cR v2_0 v2_1 v2_2 v2_3 a b c d e f rest (i+1) v2_4)) (cR v2_0 v2_1 v2_2 v2_3 a b c d e f rest (i+1) v2_4))) (some (.ret false))) (cond (hd.f0==(2:Int)) (cond ((aq (GDag.mk v2_0 v2_1 v2_2 v2_3 v2_4 a) (GRun.mk b (GSpan.mk c d) e f) (i:Int)).1) (cond (hd.f0==(4:Int)) (cond ((aq (GDag.mk v2_0 v2_1 v2_2 v2_3 v2_4 a) (GRun.mk b (GSpan.mk c d) e f) (i:Int)).2) (cond (hd.f0==(0:Int)) (some (.ret false)) (cR v2_0 v2_1 v2_2 v2_3 a b c d e f rest (i+1) v2_4)) (some (.ret false))) (cond (hd.f0==(0:Int)) (cond ((aq (GDag.mk v2_0 v2_1 v2_2 v2_3 v2_4 a) (GRun.mk b (GSpan.mk c d) e f) (i:Int)).2) (some (.ret false)) (cR v2_0 v2_1 v2_2 v2_3 a b c d e f rest (i+1) v2_4)) (cR v2_0 v2_1 v2_2 v2_3 a b c d e f rest (i+1) v2_4))) (some (.ret false))) (cond (hd.f0==(4:Int)) (cond ((aq (GDag.mk v2_0 v2_1 v2_2 v2_3 v2_4 a) (GRun.mk b (GSpan.mk c d) e f) (i:Int)).2) (cond (hd.f0==(0:Int)) (some (.ret false)) (cR v2_0 v2_1 v2_2 v2_3 a b c d e f rest (i+1) v2_4)) (some (.ret false))) (cond (hd.f0==(0:Int)) (cond ((aq (GDag.mk v2_0 v2_1 v2_2 v2_3 v2_4 a) (GRun.mk b (GSpan.mk c d) e f) (i:Int)).2) (some (.ret false)) (cR v2_0 v2_1 v2_2 v2_3 a b c d e f rest (i+1) v2_4)) (cR v2_0 v2_1 v2_2 v2_3 a b c d e f rest (i+1) v2_4))))else none else none else none else none) (some (.ret false)))) (some (.ret false))) (some (.ret false))) (some (.ret false))
theorem Nq {q0:Kd}(v2_0 v2_1:Y9)(v2_2 v2_3:Int)(b:List GTask)(c:Y9)(d e f:Int)(a:List GState)(rest:List GState):∀(i:Nat)(v2_4:Bool),(a).drop i=rest→a.length≤9223372036854775807→Ans (cR v2_0 v2_1 v2_2 v2_3 b c d e f a rest i v2_4) (Nr (q0:=q0) v2_0 v2_1 v2_2 v2_3 v2_4 b c d e f a (i:Int)):=by
 induction rest with
 |nil =>intro i v2_4 D z;have hb:=aK D;unfold cR;exact Vz (VB (show aB (ar q0 v2_0 v2_1 v2_2 v2_3 v2_4 b c d e f a (i:Int)) (.exit 0) (oW q0)from Gb (q0:=q0) v2_0 v2_1 v2_2 v2_3 v2_4 b c d e f a (i:Int) hb) (by intro h;cases h))
 |cons hd rest B =>
  intro i v2_4 D z;have hb:=aF D;have C:=aG D z;have w:=au D;have m:=aE D;unfold cR;apply VC<;>intro n
  ·apply VD;intro g1 o;apply VC<;>intro p
   ·apply VC<;>intro q
    ·apply VC<;>intro s
     ·exact Vz (VB (show aB (ar q0 v2_0 v2_1 v2_2 v2_3 v2_4 b c d e f a (i:Int)) .ret (aJ q0 false)from Ix (q0:=q0) v2_0 v2_1 v2_2 v2_3 v2_4 b c d e f a (i:Int) hd g1 hb m n o p q s) (by intro h;cases h))
     ·apply VC<;>intro t
      ·apply VE;intro u;apply VE;intro v;apply VE;intro j;apply VE;intro k;apply VC<;>intro f1
       ·apply VC<;>intro g
        ·apply VC<;>intro f2
         ·apply VC<;>intro l
          ·apply VC<;>intro A
           ·exact Vz (VB (show aB (ar q0 v2_0 v2_1 v2_2 v2_3 v2_4 b c d e f a (i:Int)) .ret (aJ q0 false)from Iy (q0:=q0) v2_0 v2_1 v2_2 v2_3 v2_4 b c d e f a (i:Int) hd g1 hb m n o p q s t u v j k g l f1 f2 A) (by intro h;cases h))
           ·exact(B (i+1) v2_4 w z).mono fun y x=>by have r:aB (ar q0 v2_0 v2_1 v2_2 v2_3 v2_4 b c d e f a (i:Int)) .normal (ar q0 v2_0 v2_1 v2_2 v2_3 v2_4 b c d e f a (inc (i:Int))):=Iz (q0:=q0) v2_0 v2_1 v2_2 v2_3 v2_4 b c d e f a (i:Int) hd g1 hb m n o p q s t u v j k g l f1 f2 A;rw[C]at r;cases y<;>exact VA r x
          ·exact Vz (VB (show aB (ar q0 v2_0 v2_1 v2_2 v2_3 v2_4 b c d e f a (i:Int)) .ret (aJ q0 false)from IA (q0:=q0) v2_0 v2_1 v2_2 v2_3 v2_4 b c d e f a (i:Int) hd g1 hb m n o p q s t u v j k g l f1 f2) (by intro h;cases h))
         ·apply VC<;>intro f3
          ·apply VC<;>intro l
           ·exact Vz (VB (show aB (ar q0 v2_0 v2_1 v2_2 v2_3 v2_4 b c d e f a (i:Int)) .ret (aJ q0 false)from IB (q0:=q0) v2_0 v2_1 v2_2 v2_3 v2_4 b c d e f a (i:Int) hd g1 hb m n o p q s t u v j k g l f1 f2 f3) (by intro h;cases h))
           ·exact(B (i+1) v2_4 w z).mono fun y x=>by have r:aB (ar q0 v2_0 v2_1 v2_2 v2_3 v2_4 b c d e f a (i:Int)) .normal (ar q0 v2_0 v2_1 v2_2 v2_3 v2_4 b c d e f a (inc (i:Int))):=IC (q0:=q0) v2_0 v2_1 v2_2 v2_3 v2_4 b c d e f a (i:Int) hd g1 hb m n o p q s t u v j k g l f1 f2 f3;rw[C]at r;cases y<;>exact VA r x
          ·exact(B (i+1) v2_4 w z).mono fun y x=>by have r:aB (ar q0 v2_0 v2_1 v2_2 v2_3 v2_4 b c d e f a (i:Int)) .normal (ar q0 v2_0 v2_1 v2_2 v2_3 v2_4 b c d e f a (inc (i:Int))):=ID (q0:=q0) v2_0 v2_1 v2_2 v2_3 v2_4 b c d e f a (i:Int) hd g1 hb m n o p q s t u v j k g f1 f2 f3;rw[C]at r;cases y<;>exact VA r x
        ·exact Vz (VB (show aB (ar q0 v2_0 v2_1 v2_2 v2_3 v2_4 b c d e f a (i:Int)) .ret (aJ q0 false)from IE (q0:=q0) v2_0 v2_1 v2_2 v2_3 v2_4 b c d e f a (i:Int) hd g1 hb m n o p q s t u v j k g f1) (by intro h;cases h))
       ·apply VC<;>intro f4
        ·apply VC<;>intro g
         ·apply VC<;>intro f5
          ·apply VC<;>intro l
           ·apply VC<;>intro F
            ·exact Vz (VB (show aB (ar q0 v2_0 v2_1 v2_2 v2_3 v2_4 b c d e f a (i:Int)) .ret (aJ q0 false)from IF (q0:=q0) v2_0 v2_1 v2_2 v2_3 v2_4 b c d e f a (i:Int) hd g1 hb m n o p q s t u v j k g l f1 f4 f5 F) (by intro h;cases h))
            ·exact(B (i+1) v2_4 w z).mono fun y x=>by have r:aB (ar q0 v2_0 v2_1 v2_2 v2_3 v2_4 b c d e f a (i:Int)) .normal (ar q0 v2_0 v2_1 v2_2 v2_3 v2_4 b c d e f a (inc (i:Int))):=IG (q0:=q0) v2_0 v2_1 v2_2 v2_3 v2_4 b c d e f a (i:Int) hd g1 hb m n o p q s t u v j k g l f1 f4 f5 F;rw[C]at r;cases y<;>exact VA r x
           ·exact Vz (VB (show aB (ar q0 v2_0 v2_1 v2_2 v2_3 v2_4 b c d e f a (i:Int)) .ret (aJ q0 false)from FW (q0:=q0) v2_0 v2_1 v2_2 v2_3 v2_4 b c d e f a (i:Int) hd g1 hb m n o p q s t u v j k g l f1 f4 f5) (by intro h;cases h))
          ·apply VC<;>intro f6
           ·apply VC<;>intro l
            ·exact Vz (VB (show aB (ar q0 v2_0 v2_1 v2_2 v2_3 v2_4 b c d e f a (i:Int)) .ret (aJ q0 false)from FX (q0:=q0) v2_0 v2_1 v2_2 v2_3 v2_4 b c d e f a (i:Int) hd g1 hb m n o p q s t u v j k g l f1 f4 f5 f6) (by intro h;cases h))
            ·exact(B (i+1) v2_4 w z).mono fun y x=>by have r:aB (ar q0 v2_0 v2_1 v2_2 v2_3 v2_4 b c d e f a (i:Int)) .normal (ar q0 v2_0 v2_1 v2_2 v2_3 v2_4 b c d e f a (inc (i:Int))):=FY (q0:=q0) v2_0 v2_1 v2_2 v2_3 v2_4 b c d e f a (i:Int) hd g1 hb m n o p q s t u v j k g l f1 f4 f5 f6;rw[C]at r;cases y<;>exact VA r x
           ·exact(B (i+1) v2_4 w z).mono fun y x=>by have r:aB (ar q0 v2_0 v2_1 v2_2 v2_3 v2_4 b c d e f a (i:Int)) .normal (ar q0 v2_0 v2_1 v2_2 v2_3 v2_4 b c d e f a (inc (i:Int))):=FZ (q0:=q0) v2_0 v2_1 v2_2 v2_3 v2_4 b c d e f a (i:Int) hd g1 hb m n o p q s t u v j k g f1 f4 f5 f6;rw[C]at r;cases y<;>exact VA r x
         ·exact Vz (VB (show aB (ar q0 v2_0 v2_1 v2_2 v2_3 v2_4 b c d e f a (i:Int)) .ret (aJ q0 false)from F0 (q0:=q0) v2_0 v2_1 v2_2 v2_3 v2_4 b c d e f a (i:Int) hd g1 hb m n o p q s t u v j k g f1 f4) (by intro h;cases h))
        ·apply VC<;>intro f7
         ·apply VC<;>intro g
          ·apply VC<;>intro A
           ·exact Vz (VB (show aB (ar q0 v2_0 v2_1 v2_2 v2_3 v2_4 b c d e f a (i:Int)) .ret (aJ q0 false)from F1 (q0:=q0) v2_0 v2_1 v2_2 v2_3 v2_4 b c d e f a (i:Int) hd g1 hb m n o p q s t u v j k g f1 f4 f7 A) (by intro h;cases h))
           ·exact(B (i+1) v2_4 w z).mono fun y x=>by have r:aB (ar q0 v2_0 v2_1 v2_2 v2_3 v2_4 b c d e f a (i:Int)) .normal (ar q0 v2_0 v2_1 v2_2 v2_3 v2_4 b c d e f a (inc (i:Int))):=F2 (q0:=q0) v2_0 v2_1 v2_2 v2_3 v2_4 b c d e f a (i:Int) hd g1 hb m n o p q s t u v j k g f1 f4 f7 A;rw[C]at r;cases y<;>exact VA r x
          ·exact Vz (VB (show aB (ar q0 v2_0 v2_1 v2_2 v2_3 v2_4 b c d e f a (i:Int)) .ret (aJ q0 false)from F3 (q0:=q0) v2_0 v2_1 v2_2 v2_3 v2_4 b c d e f a (i:Int) hd g1 hb m n o p q s t u v j k g f1 f4 f7) (by intro h;cases h))
         ·apply VC<;>intro f8
          ·apply VC<;>intro g
           ·exact Vz (VB (show aB (ar q0 v2_0 v2_1 v2_2 v2_3 v2_4 b c d e f a (i:Int)) .ret (aJ q0 false)from F4 (q0:=q0) v2_0 v2_1 v2_2 v2_3 v2_4 b c d e f a (i:Int) hd g1 hb m n o p q s t u v j k g f1 f4 f7 f8) (by intro h;cases h))
           ·exact(B (i+1) v2_4 w z).mono fun y x=>by have r:aB (ar q0 v2_0 v2_1 v2_2 v2_3 v2_4 b c d e f a (i:Int)) .normal (ar q0 v2_0 v2_1 v2_2 v2_3 v2_4 b c d e f a (inc (i:Int))):=F5 (q0:=q0) v2_0 v2_1 v2_2 v2_3 v2_4 b c d e f a (i:Int) hd g1 hb m n o p q s t u v j k g f1 f4 f7 f8;rw[C]at r;cases y<;>exact VA r x
          ·exact(B (i+1) v2_4 w z).mono fun y x=>by have r:aB (ar q0 v2_0 v2_1 v2_2 v2_3 v2_4 b c d e f a (i:Int)) .normal (ar q0 v2_0 v2_1 v2_2 v2_3 v2_4 b c d e f a (inc (i:Int))):=F6 (q0:=q0) v2_0 v2_1 v2_2 v2_3 v2_4 b c d e f a (i:Int) hd g1 hb m n o p q s t u v j k f1 f4 f7 f8;rw[C]at r;cases y<;>exact VA r x
      ·exact Vz (VB (show aB (ar q0 v2_0 v2_1 v2_2 v2_3 v2_4 b c d e f a (i:Int)) .ret (aJ q0 false)from F7 (q0:=q0) v2_0 v2_1 v2_2 v2_3 v2_4 b c d e f a (i:Int) hd g1 hb m n o p q s t) (by intro h;cases h))
    ·exact Vz (VB (show aB (ar q0 v2_0 v2_1 v2_2 v2_3 v2_4 b c d e f a (i:Int)) .ret (aJ q0 false)from F8 (q0:=q0) v2_0 v2_1 v2_2 v2_3 v2_4 b c d e f a (i:Int) hd g1 hb m n o p q) (by intro h;cases h))
   ·exact Vz (VB (show aB (ar q0 v2_0 v2_1 v2_2 v2_3 v2_4 b c d e f a (i:Int)) .ret (aJ q0 false)from F9 (q0:=q0) v2_0 v2_1 v2_2 v2_3 v2_4 b c d e f a (i:Int) hd g1 hb m n o p) (by intro h;cases h))
  ·exact Vz (VB (show aB (ar q0 v2_0 v2_1 v2_2 v2_3 v2_4 b c d e f a (i:Int)) .ret (aJ q0 false)from Ga (q0:=q0) v2_0 v2_1 v2_2 v2_3 v2_4 b c d e f a (i:Int) hd hb m n) (by intro h;cases h))
noncomputable def t6 (b:GDag)(a:GRun):Option (Bool):=
  cond (!(a.f0.toList==b.f0.toList))
   (some (false))
   (cond (sD a.f1)
    (cond (ag a.f2 0 1000)
     (cond ((a.f3.length:Int) != (b.f5.length:Int))
      (some (false))
      (if a.f3.length≤9223372036854775807 then(cR b.f0 b.f1 b.f2 b.f3 b.f5 a.f0 a.f1.f0 a.f1.f1 a.f2 a.f3 a.f3 0 b.f4).bind fun y=>match y with
       | .ret c=>(some (c))
       | .x0=>(some (true))else none))
     (some (false)))
    (some (false)))
theorem PZ {q0:Kd}(x0:GDag)(a:GRun):Ans (t6 x0 a) (fun r=>Does E 59 [.agg (VK .far q0 x0),.agg (VM .far a)] [VY r]):=by
 unfold t6;apply VC<;>intro b
 ·exact Vz (DP Tryz.f59 [.b true] (AC b<|AN))
 ·apply VC<;>intro c
  ·apply VC<;>intro e
   ·apply VC<;>intro g
    ·exact Vz (DP Tryz.f59 [.b false,rT,rT,V5 (a.f3.length:Int),V5 (x0.f5.length:Int),.b true] (AC b<|AD (VH (oi a.f1) c)<|AD (VH (ae a.f2 0 1000) e)<|ALn a.f3 VP<|ALn x0.f5 (VQ q0)<|AC g<|AN))
    ·apply VE;intro h;apply VD;intro y f;replace f:=Nq (q0:=q0) x0.f0 x0.f1 x0.f2 x0.f3 x0.f5 a.f0 a.f1.f0 a.f1.f1 a.f2 a.f3 a.f3 0 x0.f4 rfl h y f;cases y with
     |ret d =>have i:=f;exact Vz (DP Tryz.f59 [.b false,rT,rT,V5 (a.f3.length:Int),V5 (x0.f5.length:Int),.b false,.lp .ret (aJ q0 d)] (AC b<|AD (VH (oi a.f1) c)<|AD (VH (ae a.f2 0 1000) e)<|ALn a.f3 VP<|ALn x0.f5 (VQ q0)<|AC g<|AL i<|AN))
     |x0 =>have i:=f;exact Vz (DP Tryz.f59 [.b false,rT,rT,V5 (a.f3.length:Int),V5 (x0.f5.length:Int),.b false,.lp (.exit 0) (oW q0)] (AC b<|AD (VH (oi a.f1) c)<|AD (VH (ae a.f2 0 1000) e)<|ALn a.f3 VP<|ALn x0.f5 (VQ q0)<|AC g<|AL i<|AN))
   ·exact Vz (DP Tryz.f59 [.b false,rT,rF] (AC b<|AD (VH (oi a.f1) c)<|AD (VH (ae a.f2 0 1000) e)<|AN))
  ·exact Vz (DP Tryz.f59 [.b false,rF] (AC b<|AD (VH (oi a.f1) c)<|AN))
def Gu (x:GState)(m:Int)(done a:Bool):Bool :=ag x.f0 0 4&&(ag x.f1 0 m&&(ag x.f2 0 1000000000&&((decide (x.f2>0)==(x.f0==1))&&(ag x.f3 0 68374179&&(cond (x.f0==1 ||x.f0==2) done (cond (x.f0==4) a (cond (x.f0==0) (!a) true)))))))
noncomputable def mc (d:GDag)(r:GRun)(i:Int):Bool:=match ak r.f3 i,ak d.f5 i with
 |some x,some t=>Gu x (inc t.f2) (aN d r i).1 (ct d r i).2
 |_,_=>false
theorem AZ {x:Int}{a b:Int}(h:(x==a)=true)(c:a≠b):(x==b)=false:=by rw[XW]at h;rw[W5];omega
theorem RL (d:GDag)(r:GRun)(i:Int)(h:ab.sm d)(hd:aH d=true)(a:r.f3.length=d.f5.length)(hi:0≤i∧i<(d.f5.length:Int)):rU d r i=some (mc d r i):=by
 obtain⟨t,b,_⟩:=cA hi;obtain⟨x,c,_⟩:=cA (l:=r.f3) (k:=i) (by omega);unfold rU mc Gu;simp only[b,c,V9,Wa h,Wa hd,Wa a,Wa hi];cases ag x.f0 0 4<;>cases ag x.f1 0 (inc t.f2)<;>cases ag x.f2 0 1000000000<;>cases ag x.f3 0 68374179<;>cases(decide (x.f2>0)==(x.f0==1))<;>try rfl
 cases x.f0==1<;>cases x.f0==2<;>cases x.f0==4<;>cases x.f0==0<;>rfl
theorem BJ {q0:Kd}(a:GDag)(c:GRun)(b:Int)(h:ab.sm a)(hd:aH a=true)(d:c.f3.length=a.f5.length)(hi:0≤b∧b<(a.f5.length:Int)):Does E 97 [.agg (VK .far q0 a),.agg (VM .far c),V2 b] [VY (mc a c b)]:=by exact MA a c b _ (RL a c b h hd d hi)
inductive Eh where|ret (v4:Bool)|x0
def nk (q0:Kd)(v2_0 v2_1:Y9)(v2_2 v2_3:Int)(v2_4:Bool)(a:List GTask)(b:Y9)(c d e:Int)(f:List GState)(g h:Int):US:=stL 44 [(2,.box () [tS v2_0,tS v2_1,tI v2_2,tI v2_3,tB v2_4,V8 5 (a.map (VQ q0))]),(3,.box () [tS b,tI c,tI d,tI e,V8 4 (f.map VP)]),(34,V2 g),(35,V2 h)]
def sR (q0:Kd)(a:Bool):US:=stL 44 [(4,V3 a)]
def uE (q0:Kd)  : US:=stL 44 []
abbrev x6:US→Exit→US→Prop:=Round E 69 (an Tryz.f69 0)
def Pa {q0:Kd}(v2_0 v2_1:Y9)(v2_2 v2_3:Int)(v2_4:Bool)(a:List GTask)(b:Y9)(c d e:Int)(f:List GState)(g h:Int):Eh→Prop| .ret i=>Loops E 69 (an Tryz.f69 0) (nk q0 v2_0 v2_1 v2_2 v2_3 v2_4 a b c d e f g h) .ret (sR q0 i)| .x0=>Loops E 69 (an Tryz.f69 0) (nk q0 v2_0 v2_1 v2_2 v2_3 v2_4 a b c d e f g h) (.exit 0) (uE q0)
noncomputable def ln (v2_0 v2_1:Y9)(v2_2 v2_3:Int)(a:List GTask)(b:Y9)(c d e:Int)(f:List GState):List GState→Nat→Bool→Option Eh|[],i,v2_4=>some (.x0)|hd::rest,i,v2_4=>if ab.sm (GDag.mk v2_0 v2_1 v2_2 v2_3 v2_4 a)then if aH (GDag.mk v2_0 v2_1 v2_2 v2_3 v2_4 a)=true then if(GRun.mk b (GSpan.mk c d) e f).f3.length=(GDag.mk v2_0 v2_1 v2_2 v2_3 v2_4 a).f5.length then if 0≤(i:Int)∧(i:Int)<((GDag.mk v2_0 v2_1 v2_2 v2_3 v2_4 a).f5.length:Int)then cond (mc (GDag.mk v2_0 v2_1 v2_2 v2_3 v2_4 a) (GRun.mk b (GSpan.mk c d) e f) (i:Int)) (ln v2_0 v2_1 v2_2 v2_3 a b c d e f rest (i+1) v2_4) (some (.ret false))else none else none else none else none
theorem O9 {q0:Kd}(v2_0 v2_1:Y9)(v2_2 v2_3:Int)(b:List GTask)(c:Y9)(d e f:Int)(a:List GState)(rest:List GState):∀(i:Nat)(v2_4:Bool),(a).drop i=rest→a.length≤9223372036854775807→Ans (ln v2_0 v2_1 v2_2 v2_3 b c d e f a rest i v2_4) (Pa (q0:=q0) v2_0 v2_1 v2_2 v2_3 v2_4 b c d e f a (a.length:Int) (i:Int)):=by
 induction rest with
 |nil =>intro i v2_4 g j;have hb:=aK g;unfold ln;exact Vz (VB (show x6 (nk q0 v2_0 v2_1 v2_2 v2_3 v2_4 b c d e f a (a.length:Int) (i:Int)) (.exit 0) (uE q0)from RP [.b false] (AC hb<|AN)) (by intro h;cases h))
 |cons hd rest s =>
  intro i v2_4 g j;have hb:=aF g;have t:=aG g j;have l:=au g;have v:=aE g;unfold ln;apply VE;intro m;apply VE;intro n;apply VE;intro o;apply VE;intro p;apply VC<;>intro q
  ·exact(s (i+1) v2_4 l j).mono fun y u=>by have r:x6 (nk q0 v2_0 v2_1 v2_2 v2_3 v2_4 b c d e f a (a.length:Int) (i:Int)) .normal (nk q0 v2_0 v2_1 v2_2 v2_3 v2_4 b c d e f a (a.length:Int) (inc (i:Int))):=RP [.b true,rT] (AC hb<|AV (ψ:=fun k=>E.C k 97 [.agg (VK .far q0 (GDag.mk v2_0 v2_1 v2_2 v2_3 v2_4 b)),.agg (VM .far (GRun.mk c (GSpan.mk d e) f a)),V2 (i:Int)]=some [VY true]) (VF (BJ (GDag.mk v2_0 v2_1 v2_2 v2_3 v2_4 b) (GRun.mk c (GSpan.mk d e) f a) (i:Int) m n o p) (by rw[q]))<|AN);rw[t]at r;cases y<;>exact VA r u
  ·exact Vz (VB (show x6 (nk q0 v2_0 v2_1 v2_2 v2_3 v2_4 b c d e f a (a.length:Int) (i:Int)) .ret (sR q0 false)from RP [.b true,rF] (AC hb<|AV (ψ:=fun k=>E.C k 97 [.agg (VK .far q0 (GDag.mk v2_0 v2_1 v2_2 v2_3 v2_4 b)),.agg (VM .far (GRun.mk c (GSpan.mk d e) f a)),V2 (i:Int)]=some [VY false]) (VF (BJ (GDag.mk v2_0 v2_1 v2_2 v2_3 v2_4 b) (GRun.mk c (GSpan.mk d e) f a) (i:Int) m n o p) (by rw[q]))<|AN)) (by intro h;cases h))
noncomputable def vA (b:GDag)(a:GRun):Option (Bool):=
  cond (!(a.f0.toList==b.f0.toList))
   (some (false))
   (cond (sD a.f1)
    (cond (ag a.f2 0 1000)
     (cond ((a.f3.length:Int) != (b.f5.length:Int))
      (some (false))
      (if a.f3.length≤9223372036854775807 then(ln b.f0 b.f1 b.f2 b.f3 b.f5 a.f0 a.f1.f0 a.f1.f1 a.f2 a.f3 a.f3 0 b.f4).bind fun y=>match y with
       | .ret c=>(some (c))
       | .x0=>(some (true))else none))
     (some (false)))
    (some (false)))
theorem QY {q0:Kd}(x0:GDag)(a:GRun):Ans (vA x0 a) (fun r=>Does E 69 [.agg (VK .far q0 x0),.agg (VM .far a)] [VY r]):=by
 unfold vA;apply VC<;>intro b
 ·exact Vz (DP Tryz.f69 [.b true] (AC b<|AN))
 ·apply VC<;>intro c
  ·apply VC<;>intro e
   ·apply VC<;>intro g
    ·exact Vz (DP Tryz.f69 [.b false,rT,rT,V5 (a.f3.length:Int),V5 (x0.f5.length:Int),.b true] (AC b<|AD (VH (pF a.f1) c)<|AD (VH (ao a.f2 0 1000) e)<|ALn a.f3 VP<|ALn x0.f5 (VQ q0)<|AC g<|AN))
    ·apply VE;intro h;apply VD;intro y f;replace f:=O9 (q0:=q0) x0.f0 x0.f1 x0.f2 x0.f3 x0.f5 a.f0 a.f1.f0 a.f1.f1 a.f2 a.f3 a.f3 0 x0.f4 rfl h y f;cases y with
     |ret d =>have i:=f;exact Vz (DP Tryz.f69 [.b false,rT,rT,V5 (a.f3.length:Int),V5 (x0.f5.length:Int),.b false,V5 (a.f3.length:Int),.lp .ret (sR q0 d)] (AC b<|AD (VH (pF a.f1) c)<|AD (VH (ao a.f2 0 1000) e)<|ALn a.f3 VP<|ALn x0.f5 (VQ q0)<|AC g<|ALn a.f3 VP<|AL i<|AN))
     |x0 =>have i:=f;exact Vz (DP Tryz.f69 [.b false,rT,rT,V5 (a.f3.length:Int),V5 (x0.f5.length:Int),.b false,V5 (a.f3.length:Int),.lp (.exit 0) (uE q0)] (AC b<|AD (VH (pF a.f1) c)<|AD (VH (ao a.f2 0 1000) e)<|ALn a.f3 VP<|ALn x0.f5 (VQ q0)<|AC g<|ALn a.f3 VP<|AL i<|AN))
   ·exact Vz (DP Tryz.f69 [.b false,rT,rF] (AC b<|AD (VH (pF a.f1) c)<|AD (VH (ao a.f2 0 1000) e)<|AN))
  ·exact Vz (DP Tryz.f69 [.b false,rF] (AC b<|AD (VH (pF a.f1) c)<|AN))
noncomputable def gS (d:GDag)(r:GRun):List GState→Nat→Bool|[],_=>true|_::l,i=>mc d r (i:Int)&&gS d r l (i+1)
noncomputable def bC (d:GDag)(r:GRun):Bool :=(r.f0.toList==d.f0.toList)&&(sD r.f1&&(ag r.f2 0 1000&&(((r.f3.length:Int)==(d.f5.length:Int))&&gS d r r.f3 0)))
theorem N6 (d:GDag)(r:GRun)(h:ab.sm d)(hd:aH d=true)(b:r.f3.length=d.f5.length):∀(l:List GState)(i:Nat),r.f3.drop i=l→cR d.f0 d.f1 d.f2 d.f3 d.f5 r.f0 r.f1.f0 r.f1.f1 r.f2 r.f3 l i d.f4=some (cond (gS d r l i) .x0 (.ret false))
 |[],i,_=>rfl
 |x::l,i,a=>by
  have e:GDag.mk d.f0 d.f1 d.f2 d.f3 d.f4 d.f5=d:=rfl;have g:GRun.mk r.f0 (GSpan.mk r.f1.f0 r.f1.f1) r.f2 r.f3=r:=rfl;have j:=aE a;have k:=lH a;have hi:0≤(i:Int)∧(i:Int)<(d.f5.length:Int):=by omega
  obtain⟨t,c,_⟩:=cA hi;have m:=N6 d r h hd b l (i+1) (au a);have n:mc d r (i:Int)=Gu x (inc t.f2) (aN d r (i:Int)).1 (ct d r (i:Int)).2:=by unfold mc;rw[j,c]
  have o:aq d r (i:Int)=((aN d r (i:Int)).1,(ct d r (i:Int)).2):=rfl;unfold cR gS;rw[n];unfold Gu;simp only[c,V9,e,g,Wa h,Wa hd,Wa b,Wa hi,m,o];cases ag x.f0 0 4<;>cases ag x.f1 0 (inc t.f2)<;>cases ag x.f2 0 1000000000<;>cases ag x.f3 0 68374179<;>cases(decide (x.f2>0)==(x.f0==1))<;>try rfl
  cases q1:x.f0==1
  ·cases f:x.f0==2
   ·cases p:x.f0==4
    ·cases x.f0==0<;>cases(ct d r (i:Int)).2<;>rfl
    ·rw[AZ p (by decide:(4:Int)≠0)];cases(ct d r (i:Int)).2<;>rfl
   ·rw[AZ f (by decide:(2:Int)≠4),AZ f (by decide:(2:Int)≠0)];cases(aN d r (i:Int)).1<;>rfl
  ·rw[AZ q1 (by decide:(1:Int)≠4),AZ q1 (by decide:(1:Int)≠0)];cases(aN d r (i:Int)).1<;>rfl
theorem N5 (d:GDag)(r:GRun)(h:ab.sm d)(hd:aH d=true)(b:r.f3.length=d.f5.length):∀(l:List GState)(i:Nat),r.f3.drop i=l→ln d.f0 d.f1 d.f2 d.f3 d.f5 r.f0 r.f1.f0 r.f1.f1 r.f2 r.f3 l i d.f4=some (cond (gS d r l i) .x0 (.ret false))
 |[],i,_=>rfl
 |x::l,i,a=>by
  have e:GDag.mk d.f0 d.f1 d.f2 d.f3 d.f4 d.f5=d:=rfl;have c:GRun.mk r.f0 (GSpan.mk r.f1.f0 r.f1.f1) r.f2 r.f3=r:=rfl;have f:=lH a;have hi:0≤(i:Int)∧(i:Int)<(d.f5.length:Int):=by omega
  unfold ln gS;simp only[e,c,Wa h,Wa hd,Wa b,Wa hi,N5 d r h hd b l (i+1) (au a)];cases mc d r (i:Int)<;>rfl
theorem Ct (d:GDag)(r:GRun)(h:ab.sm d)(hd:aH d=true):t6 d r=some (bC d r)∧vA d r=some (bC d r):=by
 have b:=(mE hd).1;unfold t6 vA bC;cases r.f0.toList==d.f0.toList<;>cases sD r.f1<;>cases ag r.f2 0 1000<;>try exact⟨rfl,rfl⟩
 have e:((r.f3.length:Int) != (d.f5.length:Int))= !((r.f3.length:Int)==(d.f5.length:Int)):=rfl;rw[e];cases q:((r.f3.length:Int)==(d.f5.length:Int))with
 |false=>exact⟨rfl,rfl⟩
 |true =>
  have a:r.f3.length=d.f5.length:=by rw[XW]at q;omega
  simp only[Xd,Wu,Wn,Yp,WJ,Wa (show r.f3.length≤9223372036854775807 by omega),N6 d r h hd a r.f3 0 rfl,N5 d r h hd a r.f3 0 rfl];cases gS d r r.f3 0<;>exact⟨rfl,rfl⟩
theorem uR {d:GDag}{r:GRun}(h:bC d r=true):r.f3.length=d.f5.length:=by unfold bC at h;simp only[Ww,XW]at h;omega
theorem j9 {q0:Kd}(a:GDag)(b:GRun)(h:ab.sm a)(hd:aH a=true):Does E 59 [.agg (VK .far q0 a),.agg (VM .far b)] [VY (bC a b)]:=by exact PZ a b _ (Ct a b h hd).1
theorem pk {q0:Kd}(a:GDag)(b:GRun)(h:ab.sm a)(hd:aH a=true):Does E 69 [.agg (VK .far q0 a),.agg (VM .far b)] [VY (bC a b)]:=by exact QY a b _ (Ct a b h hd).2
noncomputable def vv (a:GDag)(b:GRun):Option (Bool):=if ab.sm a then cond (aH a) (if aH a=true then some (bC a b)else none) (some (false))else none
theorem QU {q0:Kd}(a:GDag)(b:GRun):Ans (vv a b) (fun r=>Does E 48 [.agg (VK .far q0 a),.agg (VM .far b)] [VY r]):=by
 unfold vv;apply VE;intro c;apply VC<;>intro d
 ·apply VE;intro e;exact Vz (DP Tryz.f48 [rT,.ret [VY (bC a b)]] (AV (ψ:=fun k=>E.C k 68 [.agg (VK .far q0 a)]=some [VY true]) (VF (lb a c) (by rw[d]))<|AV (ψ:=fun k=>E.C k 69 [.agg (VK .far q0 a),.agg (VM .far b)]=some [VY (bC a b)]) (pk a b c e)<|AN))
 ·exact Vz (DP Tryz.f48 [rF] (AV (ψ:=fun k=>E.C k 68 [.agg (VK .far q0 a)]=some [VY false]) (VF (lb a c) (by rw[d]))<|AN))
noncomputable def BD (d:GDag)(r:GRun):Bool:=aH d&&bC d r
theorem Ic (d:GDag)(r:GRun)(h:ab.sm d):vv d r=some (BD d r):=by
 unfold vv BD;cases aH d
 ·simp only[Wa h]<;>rfl
 ·simp only[Wa h,WN]<;>rfl
theorem zF {q0:Kd}(a:GDag)(b:GRun)(h:ab.sm a):Does E 48 [.agg (VK .far q0 a),.agg (VM .far b)] [VY (BD a b)]:=by exact QU a b _ (Ic a b h)
noncomputable def uZ (a b:GRun):Option (Bool):=cond (Op.bytesLess a.f0.toList b.f0.toList) (some (true)) (cond (a.f0.toList==b.f0.toList) (some (decide (a.f1.f0<b.f1.f0))) (some (false)))
theorem Ll (b c:GRun):Ans (uZ b c) (fun r=>Does E 58 [.agg (VM .far b),.agg (VM .far c)] [VY r]):=by
 unfold uZ;apply VC<;>intro a
 ·exact Vz (DP Tryz.f58 [.b true] (AC a<|AN))
 ·apply VC<;>intro d
  ·exact Vz (DP Tryz.f58 [.b false,.b true] (AC a<|AC d<|AN))
  ·exact Vz (DP Tryz.f58 [.b false,.b false] (AC a<|AC d<|AN))
noncomputable def ahead (a b:GRun):Bool:=Op.bytesLess a.f0.toList b.f0.toList ||((a.f0.toList==b.f0.toList)&&decide (a.f1.f0<b.f1.f0))
theorem mz (a:GRun)(b:GRun):Does E 58 [.agg (VM .far a),.agg (VM .far b)] [VY (ahead a b)]:=by exact Ll a b _ (by unfold uZ ahead;cases Op.bytesLess a.f0.toList b.f0.toList<;>cases a.f0.toList==b.f0.toList<;>rfl)
noncomputable def so (a:Y9):Option (Bool):=some (!(a.toList==a.toList))
theorem zQ (a:Y9):Ans (so a) (fun r=>Does E 115 [V4 a] [VY r]):=by unfold so;exact Vz (DP Tryz.f115 [] AN)
def BA (x:Y9):Bool := !(x.toList==x.toList)
theorem bQ (a:Y9):Does E 115 [V4 a] [VY (BA a)]:=by exact zQ a _ rfl
noncomputable def vl (a:Int):Option (Bool):=some (a != a)
theorem DE (a:Int):Ans (vl a) (fun r=>Does E 116 [V2 a] [VY r]):=by unfold vl;exact Vz (DP Tryz.f116 [] AN)
def xa (x:Int):Bool:=x != x
theorem cu (a:Int):Does E 116 [V2 a] [VY (xa a)]:=by exact DE a _ rfl
noncomputable def iQ (x0 a:Y9):Option (Int):=cond (BA x0) (cond (BA a) (some (0)) (some ((-1:Int)))) (cond (BA a) (some (1)) (cond (Op.bytesLess x0.toList a.toList) (some ((-1:Int))) (cond (!(Op.bytesLess x0.toList a.toList ||x0.toList==a.toList)) (some (1)) (some (0)))))
theorem xL (a b:Y9):Ans (iQ a b) (fun r=>Does E 99 [V4 a,V4 b] [VX r]):=by
 unfold iQ;apply VC<;>intro d
 ·apply VC<;>intro c
  ·exact Vz (DP Tryz.f99 [rT,rT] (AD (VH (bQ a) d)<|AD (VH (bQ b) c)<|AN))
  ·exact Vz (DP Tryz.f99 [rT,rF] (AD (VH (bQ a) d)<|AD (VH (bQ b) c)<|AN))
 ·apply VC<;>intro c
  ·exact Vz (DP Tryz.f99 [rF,rT] (AD (VH (bQ a) d)<|AD (VH (bQ b) c)<|AN))
  ·apply VC<;>intro e
   ·exact Vz (DP Tryz.f99 [rF,rF,.b true] (AD (VH (bQ a) d)<|AD (VH (bQ b) c)<|AC e<|AN))
   ·apply VC<;>intro f
    ·exact Vz (DP Tryz.f99 [rF,rF,.b false,.b true] (AD (VH (bQ a) d)<|AD (VH (bQ b) c)<|AC e<|AC f<|AN))
    ·exact Vz (DP Tryz.f99 [rF,rF,.b false,.b false] (AD (VH (bQ a) d)<|AD (VH (bQ b) c)<|AC e<|AC f<|AN))
noncomputable def pN (a b:Y9):Int:=cond (Op.bytesLess a.toList b.toList) (-1) (cond (a.toList==b.toList) 0 1)
theorem Th (a b:Y9):iQ a b=some (pN a b):=by
 have e:∀x,BA x=false:=fun x=>by unfold BA;simp
 unfold iQ pN;rw[e,e];cases Op.bytesLess a.toList b.toList<;>cases a.toList==b.toList<;>rfl
theorem xD (a:Y9)(b:Y9):Does E 99 [V4 a,V4 b] [VX (pN a b)]:=by exact xL a b _ (Th a b)
noncomputable def kD (b a:Int):Option (Int):=cond (xa b) (cond (xa a) (some (0)) (some ((-1:Int)))) (cond (xa a) (some (1)) (cond (decide (b<a)) (some ((-1:Int))) (cond (decide (b>a)) (some (1)) (some (0)))))
theorem BH (a b:Int):Ans (kD a b) (fun r=>Does E 100 [V2 a,V2 b] [VX r]):=by
 unfold kD;apply VC<;>intro d
 ·apply VC<;>intro c
  ·exact Vz (DP Tryz.f100 [rT,rT] (AD (VH (cu a) d)<|AD (VH (cu b) c)<|AN))
  ·exact Vz (DP Tryz.f100 [rT,rF] (AD (VH (cu a) d)<|AD (VH (cu b) c)<|AN))
 ·apply VC<;>intro c
  ·exact Vz (DP Tryz.f100 [rF,rT] (AD (VH (cu a) d)<|AD (VH (cu b) c)<|AN))
  ·apply VC<;>intro e
   ·exact Vz (DP Tryz.f100 [rF,rF,.b true] (AD (VH (cu a) d)<|AD (VH (cu b) c)<|AC e<|AN))
   ·apply VC<;>intro f
    ·exact Vz (DP Tryz.f100 [rF,rF,.b false,.b true] (AD (VH (cu a) d)<|AD (VH (cu b) c)<|AC e<|AC f<|AN))
    ·exact Vz (DP Tryz.f100 [rF,rF,.b false,.b false] (AD (VH (cu a) d)<|AD (VH (cu b) c)<|AC e<|AC f<|AN))
def pM (a b:Int):Int:=cond (decide (a<b)) (-1) (cond (decide (a>b)) 1 0)
theorem Tg (a b:Int):kD a b=some (pM a b):=by
 have e:∀x,xa x=false:=fun x=>by unfold xa;simp
 unfold kD pM;rw[e,e];cases decide (a<b)<;>cases decide (a>b)<;>rfl
theorem BE (a:Int)(b:Int):Does E 100 [V2 a,V2 b] [VX (pM a b)]:=by exact BH a b _ (Tg a b)
inductive yL where|ret (v2:Int)|x0
def jP (v3:Int)(v6:List Int)(v7 v8:Int):US:=stL 18 [(3,V2 v3),(6,.one (V8 1 (v6.map etI))),(7,V2 v7),(8,V2 v8)]
def oY (a:Int):US:=stL 18 [(2,V2 a)]
def pO (v3:Int):US:=stL 18 [(3,V2 v3)]
abbrev sI:US→Exit→US→Prop:=Round E 98 (an Tryz.f98 0)
def Hv (v3:Int)(v6:List Int)(v7 v8:Int):yL→Prop| .ret a=>Loops E 98 (an Tryz.f98 0) (jP v3 v6 v7 v8) .ret (oY a)| .x0=>Loops E 98 (an Tryz.f98 0) (jP v3 v6 v7 v8) (.exit 0) (pO v3)
noncomputable def iD (v3:Int):List Int→Nat→Option yL|[],i=>some (.x0)|hd::rest,i=>cond (hd != v3) (some (.ret hd)) (iD v3 rest (i+1))
theorem Hu (v3:Int)(v6:List Int)(rest:List Int):∀(i:Nat) ,(v6).drop i=rest→v6.length≤9223372036854775807→Ans (iD v3 rest i) (Hv v3 v6 (v6.length:Int) (i:Int)):=by
 induction rest with
 |nil =>intro i a b;have hb:=aK a;unfold iD;exact Vz (VB (show sI (jP v3 v6 (v6.length:Int) (i:Int)) (.exit 0) (pO v3)from RP [.b false] (AC hb<|AN)) (by intro h;cases h))
 |cons hd rest f =>
  intro i a b;have hb:=aF a;have g:=aG a b;have c:=au a;have d:=aE a;unfold iD;apply VC<;>intro e
  ·exact Vz (VB (show sI (jP v3 v6 (v6.length:Int) (i:Int)) .ret (oY hd)from RP [.b true,.row (etI hd),.b true] (AC hb<|AR etI d<|AC e<|AN)) (by intro h;cases h))
  ·exact(f (i+1) c b).mono fun y j=>by have r:sI (jP v3 v6 (v6.length:Int) (i:Int)) .normal (jP v3 v6 (v6.length:Int) (inc (i:Int))):=RP [.b true,.row (etI hd),.b false] (AC hb<|AR etI d<|AC e<|AN);rw[g]at r;cases y<;>exact VA r j
noncomputable def pP (b:List Int):Option (Int):=
  if b.length≤9223372036854775807 then(iD 0 b 0).bind fun y=>match y with
   | .ret a=>(some (a))
   | .x0=>(some (0))else none
theorem Jn (x0:List Int):Ans (pP x0) (fun r=>Does E 98 [.one (V8 1 (x0.map etI))] [VX r]):=by
 unfold pP;apply VE;intro c;apply VD;intro y b;replace b:=Hu 0 x0 x0 0 rfl c y b;cases y with
 |ret a =>have d:=b;exact Vz (DP Tryz.f98 [V5 (x0.length:Int),.lp .ret (oY a)] (ALn x0 etI<|AL d<|AN))
 |x0 =>have d:=b;exact Vz (DP Tryz.f98 [V5 (x0.length:Int),.lp (.exit 0) (pO 0)] (ALn x0 etI<|AL d<|AN))
def orI:List Int→Int|[]=>0|x::l=>cond (x != 0) x (orI l)
theorem T7:∀(rest:List Int)(i:Nat),∃r,iD 0 rest i=some r∧(match r with| .ret w=>w| .x0=>(0:Int))=orI rest
 |[],i=>⟨.x0,rfl,rfl⟩
 |x::rest,i=>by
  obtain⟨r,a,b⟩:=T7 rest (i+1);unfold iD orI;cases x != 0 with
  |true=>exact⟨.ret x,rfl,rfl⟩
  |false=>exact⟨r,a,b⟩
theorem Uo (l:List Int)(h:l.length≤1050000):pP l=some (orI l):=by obtain⟨r,a,b⟩:=T7 l 0;unfold pP;rw[Wa (by omega),a, ←b];cases r<;>rfl
theorem Jb (a:List Int)(h:a.length≤1050000):Does E 98 [.one (V8 1 (a.map etI))] [VX (orI a)]:=by exact Jn a _ (Uo a h)
noncomputable def qc (a b:GRun):Option (Int):=if([pN a.f0 b.f0,pM a.f1.f0 b.f1.f0]).length≤1050000 then some (orI ([pN a.f0 b.f0,pM a.f1.f0 b.f1.f0]))else none
theorem Eb (a b:GRun):Ans (qc a b) (fun r=>Does E 70 [.agg (VM .far a),.agg (VM .far b)] [VX r]):=by unfold qc;apply VE;intro c;exact Vz (DP Tryz.f70 [.ret [VX (pN a.f0 b.f0)],.ret [VX (pM a.f1.f0 b.f1.f0)],.ret [VX (orI ([pN a.f0 b.f0,pM a.f1.f0 b.f1.f0]))]] (AD (xD a.f0 b.f0)<|AD (BE a.f1.f0 b.f1.f0)<|AV (ψ:=fun k=>E.C k 98 [.one (V8 1 (((([pN a.f0 b.f0,pM a.f1.f0 b.f1.f0]).map etI).drop 0).take (([pN a.f0 b.f0,pM a.f1.f0 b.f1.f0]).map etI).length))]=some [VX (orI ([pN a.f0 b.f0,pM a.f1.f0 b.f1.f0]))]) (VG (by simp only[WS,WK]) (Jb ([pN a.f0 b.f0,pM a.f1.f0 b.f1.f0]) c))<|AN))
noncomputable def ud (a b:GRun):Int:=orI [pN a.f0 b.f0,pM a.f1.f0 b.f1.f0]
theorem Qq (a b:GRun):decide (ud a b≥0)= !ahead a b:=by
 unfold ud ahead pN pM;cases Op.bytesLess a.f0.toList b.f0.toList<;>cases a.f0.toList==b.f0.toList<;>try rfl
 by_cases q:a.f1.f0<b.f1.f0
 ·rw[Wi q];rfl
 ·rw[Wj q];cases decide (a.f1.f0>b.f1.f0)<;>rfl
theorem vi (a:GRun)(b:GRun):Does E 70 [.agg (VM .far a),.agg (VM .far b)] [VX (ud a b)]:=by exact Eb a b _ (by unfold qc;rw[Wa (show([pN a.f0 b.f0,pM a.f1.f0 b.f1.f0]:List Int).length≤1050000 by show 2≤1050000;omega)];rfl)
inductive Bj where|ret (v2:Bool)|x2 (v3:List Int)
def cl (q0:Kd)(a:List GSession)(b:List GPlan)(c:List GRun)(d e:Int)(v3:List Int)(v4:Int)(f:Y9)(g h i:Int)(j:List GState)(v7:Int):US:=stL 102 [(1,.box () [V8 3 (a.map VN),V8 9 (b.map (VL q0 q0)),V8 5 (c.map (VM q0)),tI d,tI e]),(3,.one (V7 1 (v3.map etI))),(4,V2 v4),(5,.box () [tS f,tI g,tI h,tI i,V8 4 (j.map VP)]),(7,V2 v7)]
def gi (q0:Kd)(a:Bool):US:=stL 102 [(2,V3 a)]
def kX (q0:Kd)(a:List GSession)(b:List GPlan)(c:List GRun)(d e v4:Int)(f:List Int):US:=stL 102 [(1,.box () [V8 3 (a.map VN),V8 9 (b.map (VL q0 q0)),V8 5 (c.map (VM q0)),tI d,tI e]),(3,.one (V7 1 (f.map etI))),(4,V2 v4)]
abbrev fi:US→Exit→US→Prop:=Round E 28 (an Tryz.f28 1)
def mW {q0:Kd}(a:List GSession)(b:List GPlan)(c:List GRun)(d e:Int)(v3:List Int)(v4:Int)(f:Y9)(g h i:Int)(j:List GState)(v7:Int):Bj→Prop| .ret k=>Loops E 28 (an Tryz.f28 1) (cl q0 a b c d e v3 v4 f g h i j v7) .ret (gi q0 k)| .x2 l=>Loops E 28 (an Tryz.f28 1) (cl q0 a b c d e v3 v4 f g h i j v7) (.exit 2) (kX q0 a b c d e v4 l)
theorem Gm {q0:Kd}(c:List GSession)(d:List GPlan)(e:List GRun)(f b:Int)(v3:List Int)(v4:Int)(g:Y9)(h i j:Int)(a:List GState)(v7:Int)(k:GState)(l:(decide (v7<(a.length:Int)))=true)(m:ak a v7=some k)(n:(decide (k.f2>(0:Int)))=true)(o:(decide (k.f2>b))=true):fi (cl q0 c d e f b v3 v4 g h i j a v7) .ret (gi q0 false):=
 RP [V5 (a.length:Int),.b true,.row (VP k),.b true,.b true] (ALn a VP<|AC l<|AR VP m<|AC n<|AC o<|AN)
theorem Gn {q0:Kd}(d:List GSession)(e:List GPlan)(f:List GRun)(g b:Int)(v3:List Int)(v4:Int)(h:Y9)(i j l:Int)(a:List GState)(v7:Int)(c:GState)(m:(decide (v7<(a.length:Int)))=true)(n:ak a v7=some c)(o:(decide (c.f2>(0:Int)))=true)(p:(decide (c.f2>b))=false)(q:v3.length≤1050000)(r:(ck v3 c.f2)=true):fi (cl q0 d e f g b v3 v4 h i j l a v7) .ret (gi q0 false):=
 RP [V5 (a.length:Int),.b true,.row (VP c),.b true,.b false,rT] (ALn a VP<|AC m<|AR VP n<|AC o<|AC p<|AV (ψ:=fun k=>E.C k 60 [.one (V8 1 (((v3.map etI).drop 0).take (v3.map etI).length)),V2 c.f2]=some [VY true]) (VG (by simp only[WS,WK]) (VF (pm v3 c.f2 q) (by rw[r])))<|AN)
theorem Gp {q0:Kd}(d:List GSession)(e:List GPlan)(f:List GRun)(g b:Int)(v3:List Int)(v4:Int)(h:Y9)(i j l:Int)(a:List GState)(v7:Int)(c:GState)(n:(decide (v7<(a.length:Int)))=true)(o:ak a v7=some c)(m:(decide (c.f2>(0:Int)))=true)(p:(decide (c.f2>b))=false)(q:v3.length≤1050000)(r:(ck v3 c.f2)=false)(s:(v3.length+([c.f2]).length)*8≤140737488355328∧v3.length+([c.f2]).length≤4611686018427387904):fi (cl q0 d e f g b v3 v4 h i j l a v7) .normal (cl q0 d e f g b (v3++([c.f2])) v4 h i j l a (inc v7)):=
 RP [V5 (a.length:Int),.b true,.row (VP c),.b true,.b false,rF,.b true,.rows ((v3++([c.f2])).map etI)] (ALn a VP<|AC n<|AR VP o<|AC m<|AC p<|AV (ψ:=fun k=>E.C k 60 [.one (V8 1 (((v3.map etI).drop 0).take (v3.map etI).length)),V2 c.f2]=some [VY false]) (VG (by simp only[WS,WK]) (VF (pm v3 c.f2 q) (by rw[r])))<|AC m<|AAp etI (fun _=>rfl) s<|AN)
theorem Gq {q0:Kd}(b:List GSession)(c:List GPlan)(d:List GRun)(e f:Int)(v3:List Int)(v4:Int)(g:Y9)(h i j:Int)(a:List GState)(v7:Int)(k:GState)(m:(decide (v7<(a.length:Int)))=true)(n:ak a v7=some k)(l:(decide (k.f2>(0:Int)))=false):fi (cl q0 b c d e f v3 v4 g h i j a v7) .normal (cl q0 b c d e f v3 v4 g h i j a (inc v7)):=
 RP [V5 (a.length:Int),.b true,.row (VP k),.b false,.b false] (ALn a VP<|AC m<|AR VP n<|AC l<|AC l<|AN)
theorem Gr {q0:Kd}(b:List GSession)(c:List GPlan)(d:List GRun)(e f:Int)(v3:List Int)(v4:Int)(g:Y9)(h i j:Int)(a:List GState)(v7:Int)(k:(decide (v7<(a.length:Int)))=false):fi (cl q0 b c d e f v3 v4 g h i j a v7) (.exit 2) (kX q0 b c d e f v4 v3):=
 RP [V5 (a.length:Int),.b false] (ALn a VP<|AC k<|AN)
noncomputable def eA (a:Int):List GState→Nat→(List Int)→Option Bj|[],i,v3=>some (.x2 v3)|hd::rest,i,v3=>cond (decide (hd.f2>(0:Int))) (cond (decide (hd.f2>a)) (some (.ret false)) (if v3.length≤1050000 then cond (ck v3 hd.f2) (some (.ret false)) (if(v3.length+([hd.f2]).length)*8≤140737488355328∧v3.length+([hd.f2]).length≤4611686018427387904 then eA a rest (i+1) (v3++([hd.f2]))else none)else none)) (eA a rest (i+1) v3)
theorem Bi {q0:Kd}(c:List GSession)(d:List GPlan)(e:List GRun)(f a v4:Int)(g:Y9)(j k l:Int)(b:List GState)(rest:List GState):∀(i:Nat)(v3:List Int),(b).drop i=rest→b.length≤9223372036854775807→Ans (eA a rest i v3) (mW (q0:=q0) c d e f a v3 v4 g j k l b (i:Int)):=by
 induction rest with
 |nil =>intro i v3 m o;have hb:=aK m;unfold eA;exact Vz (VB (show fi (cl q0 c d e f a v3 v4 g j k l b (i:Int)) (.exit 2) (kX q0 c d e f a v4 v3)from Gr (q0:=q0) c d e f a v3 v4 g j k l b (i:Int) hb) (by intro h;cases h))
 |cons hd rest u =>
  intro i v3 m o;have hb:=aF m;have v:=aG m o;have n:=au m;have p:=aE m;unfold eA;apply VC<;>intro q
  ·apply VC<;>intro s
   ·exact Vz (VB (show fi (cl q0 c d e f a v3 v4 g j k l b (i:Int)) .ret (gi q0 false)from Gm (q0:=q0) c d e f a v3 v4 g j k l b (i:Int) hd hb p q s) (by intro h;cases h))
   ·apply VE;intro w;apply VC<;>intro x
    ·exact Vz (VB (show fi (cl q0 c d e f a v3 v4 g j k l b (i:Int)) .ret (gi q0 false)from Gn (q0:=q0) c d e f a v3 v4 g j k l b (i:Int) hd hb p q s w x) (by intro h;cases h))
    ·apply VE;intro z;exact(u (i+1) (v3++([hd.f2])) n o).mono fun y t=>by have r:fi (cl q0 c d e f a v3 v4 g j k l b (i:Int)) .normal (cl q0 c d e f a (v3++([hd.f2])) v4 g j k l b (inc (i:Int))):=Gp (q0:=q0) c d e f a v3 v4 g j k l b (i:Int) hd hb p q s w x z;rw[v]at r;cases y<;>exact VA r t
  ·exact(u (i+1) v3 n o).mono fun y t=>by have r:fi (cl q0 c d e f a v3 v4 g j k l b (i:Int)) .normal (cl q0 c d e f a v3 v4 g j k l b (inc (i:Int))):=Gq (q0:=q0) c d e f a v3 v4 g j k l b (i:Int) hd hb p q;rw[v]at r;cases y<;>exact VA r t
inductive u4 where|ret (v2:Bool)|x0
def aY (q0:Kd)(a:List GSession)(b:List GPlan)(c:List GRun)(d e:Int)(v3:List Int)(v4:Int):US:=stL 102 [(1,.box () [V8 3 (a.map VN),V8 9 (b.map (VL q0 q0)),V8 5 (c.map (VM q0)),tI d,tI e]),(3,.one (V7 1 (v3.map etI))),(4,V2 v4)]
def bp (q0:Kd)(a:Bool):US:=stL 102 [(2,V3 a)]
def nI (q0:Kd)(a:List GSession)(b:List GPlan)(c:List GRun)(d e:Int):US:=stL 102 [(1,.box () [V8 3 (a.map VN),V8 9 (b.map (VL q0 q0)),V8 5 (c.map (VM q0)),tI d,tI e])]
abbrev bw:US→Exit→US→Prop:=Round E 28 (an Tryz.f28 0)
def Lr {q0:Kd}(a:List GSession)(b:List GPlan)(c:List GRun)(d e:Int)(v3:List Int)(v4:Int):u4→Prop| .ret f=>Loops E 28 (an Tryz.f28 0) (aY q0 a b c d e v3 v4) .ret (bp q0 f)| .x0=>Loops E 28 (an Tryz.f28 0) (aY q0 a b c d e v3 v4) (.exit 0) (nI q0 a b c d e)
end
end Go.Proofs.YtjikhkndmohepaaGreatDoor.Am
