/- Right runs. -/
import Derived.Test.YtlgddjncnedkgaaGreatDoorRitb
import Derived.Test.YtlgddjncnedkgaaGreatDoorRitc
import Derived.Test.YtlgddjncnedkgaaGreatDoorRitd
import Derived.Test.YtlgddjncnedkgaaGreatDoorRite
namespace Go.Proofs.YtlgddjncnedkgaaGreatDoor.Am
open Go
set_option linter.unusedVariables false
set_option linter.unusedSimpArgs false
section
open Go.Proofs Classical
set_option maxRecDepth 100000
noncomputable def c6 (v2_0 v2_1:Zz)(v2_2 v2_3:Int)(a:List GTask)(b:Zz)(v3_1 v3_2 c:Int)(d:List GState):List GState→Nat→Bool→Option Dw|[],i,v2_4=>some (.x0)|hd::rest,i,v2_4=>cond (ak hd.f0 0 4) ((ar a (i:Int)).bind fun g1=>cond (ak hd.f1 0 (inc g1.f2)) (cond (ak hd.f2 0 1000000000) (cond (!((decide (hd.f2>(0:Int)))==(hd.f0==(1:Int)))) (some (.ret false)) (cond (ak hd.f3 0 68374179) (if ab.sm (GDag.mk v2_0 v2_1 v2_2 v2_3 v2_4 a)then if aY (GDag.mk v2_0 v2_1 v2_2 v2_3 v2_4 a)=true then if(GRun.mk b (GSpan.mk v3_1 v3_2) c d).f3.length=(GDag.mk v2_0 v2_1 v2_2 v2_3 v2_4 a).f5.length then if 0≤(i:Int)∧(i:Int)<((GDag.mk v2_0 v2_1 v2_2 v2_3 v2_4 a).f5.length:Int)then cond (hd.f0==(1:Int)) (cond ((ax (GDag.mk v2_0 v2_1 v2_2 v2_3 v2_4 a) (GRun.mk b (GSpan.mk v3_1 v3_2) c d) (i:Int)).1) (cond (hd.f0==(4:Int)) (cond ((ax (GDag.mk v2_0 v2_1 v2_2 v2_3 v2_4 a) (GRun.mk b (GSpan.mk v3_1 v3_2) c d) (i:Int)).2) (cond (hd.f0==(0:Int)) (some (.ret false)) (c6 v2_0 v2_1 v2_2 v2_3 a b v3_1 v3_2 c d rest (i+1) v2_4)) (some (.ret false))) (cond (hd.f0==(0:Int)) (cond ((ax (GDag.mk v2_0 v2_1 v2_2 v2_3 v2_4 a) (GRun.mk b (GSpan.mk v3_1 v3_2) c d) (i:Int)).2) (some (.ret false)) (c6 v2_0 v2_1 v2_2 v2_3 a b v3_1 v3_2 c d rest (i+1) v2_4)) (c6 v2_0 v2_1 v2_2 v2_3 a b v3_1 v3_2 c d rest (i+1) v2_4))) (some (.ret false))) (cond (hd.f0==(2:Int)) (cond ((ax (GDag.mk v2_0 v2_1 v2_2 v2_3 v2_4 a) (GRun.mk b (GSpan.mk v3_1 v3_2) c d) (i:Int)).1) (cond (hd.f0==(4:Int)) (cond ((ax (GDag.mk v2_0 v2_1 v2_2 v2_3 v2_4 a) (GRun.mk b (GSpan.mk v3_1 v3_2) c d) (i:Int)).2) (cond (hd.f0==(0:Int)) (some (.ret false)) (c6 v2_0 v2_1 v2_2 v2_3 a b v3_1 v3_2 c d rest (i+1) v2_4)) (some (.ret false))) (cond (hd.f0==(0:Int)) (cond ((ax (GDag.mk v2_0 v2_1 v2_2 v2_3 v2_4 a) (GRun.mk b (GSpan.mk v3_1 v3_2) c d) (i:Int)).2) (some (.ret false)) (c6 v2_0 v2_1 v2_2 v2_3 a b v3_1 v3_2 c d rest (i+1) v2_4)) (c6 v2_0 v2_1 v2_2 v2_3 a b v3_1 v3_2 c d rest (i+1) v2_4))) (some (.ret false))) (cond (hd.f0==(4:Int)) (cond ((ax (GDag.mk v2_0 v2_1 v2_2 v2_3 v2_4 a) (GRun.mk b (GSpan.mk v3_1 v3_2) c d) (i:Int)).2) (cond (hd.f0==(0:Int)) (some (.ret false)) (c6 v2_0 v2_1 v2_2 v2_3 a b v3_1 v3_2 c d rest (i+1) v2_4)) (some (.ret false))) (cond (hd.f0==(0:Int)) (cond ((ax (GDag.mk v2_0 v2_1 v2_2 v2_3 v2_4 a) (GRun.mk b (GSpan.mk v3_1 v3_2) c d) (i:Int)).2) (some (.ret false)) (c6 v2_0 v2_1 v2_2 v2_3 a b v3_1 v3_2 c d rest (i+1) v2_4)) (c6 v2_0 v2_1 v2_2 v2_3 a b v3_1 v3_2 c d rest (i+1) v2_4))))else none else none else none else none) (some (.ret false)))) (some (.ret false))) (some (.ret false))) (some (.ret false))
theorem Oa {q0:Kd}(v2_0 v2_1:Zz)(v2_2 v2_3:Int)(b:List GTask)(c:Zz)(v3_1 v3_2 d:Int)(a:List GState)(rest:List GState):∀(i:Nat)(v2_4:Bool),(a).drop i=rest→a.length≤9223372036854775807→Ans (c6 v2_0 v2_1 v2_2 v2_3 b c v3_1 v3_2 d a rest i v2_4) (Ob (q0:=q0) v2_0 v2_1 v2_2 v2_3 v2_4 b c v3_1 v3_2 d a (i:Int)):=by
 induction rest with
 |nil =>intro i v2_4 A v;have hb:=aP A;unfold c6;exact VZ (V3 (show aE (av q0 v2_0 v2_1 v2_2 v2_3 v2_4 b c v3_1 v3_2 d a (i:Int)) (.exit 0) (py q0)from HD (q0:=q0) v2_0 v2_1 v2_2 v2_3 v2_4 b c v3_1 v3_2 d a (i:Int) hb))
 |cons hd rest x =>
  intro i v2_4 A v;have hb:=aI A;have z:=aJ A v;have t:=az A;have j:=aK A;unfold c6;apply V4<;>intro k
  ·apply V5;intro g1 l;apply V4<;>intro m
   ·apply V4<;>intro n
    ·apply V4<;>intro o
     ·exact VZ (V3 (show aE (av q0 v2_0 v2_1 v2_2 v2_3 v2_4 b c v3_1 v3_2 d a (i:Int)) .ret (aN q0 false)from JH (q0:=q0) v2_0 v2_1 v2_2 v2_3 v2_4 b c v3_1 v3_2 d a (i:Int) hd g1 hb j k l m n o))
     ·apply V4<;>intro p
      ·apply V6;intro q;apply V6;intro s;apply V6;intro f;apply V6;intro g;apply V4<;>intro f1
       ·apply V4<;>intro e
        ·apply V4<;>intro f2
         ·apply V4<;>intro h
          ·apply V4<;>intro w
           ·exact VZ (V3 (show aE (av q0 v2_0 v2_1 v2_2 v2_3 v2_4 b c v3_1 v3_2 d a (i:Int)) .ret (aN q0 false)from JI (q0:=q0) v2_0 v2_1 v2_2 v2_3 v2_4 b c v3_1 v3_2 d a (i:Int) hd g1 hb j k l m n o p q s f g e h f1 f2 w))
           ·exact(x (i+1) v2_4 t v).mono fun y u=>by have r:aE (av q0 v2_0 v2_1 v2_2 v2_3 v2_4 b c v3_1 v3_2 d a (i:Int)) .normal (av q0 v2_0 v2_1 v2_2 v2_3 v2_4 b c v3_1 v3_2 d a (inc (i:Int))):=JJ (q0:=q0) v2_0 v2_1 v2_2 v2_3 v2_4 b c v3_1 v3_2 d a (i:Int) hd g1 hb j k l m n o p q s f g e h f1 f2 w;rw[z]at r;cases y<;>exact V2 r u
          ·exact VZ (V3 (show aE (av q0 v2_0 v2_1 v2_2 v2_3 v2_4 b c v3_1 v3_2 d a (i:Int)) .ret (aN q0 false)from JK (q0:=q0) v2_0 v2_1 v2_2 v2_3 v2_4 b c v3_1 v3_2 d a (i:Int) hd g1 hb j k l m n o p q s f g e h f1 f2))
         ·apply V4<;>intro f3
          ·apply V4<;>intro h
           ·exact VZ (V3 (show aE (av q0 v2_0 v2_1 v2_2 v2_3 v2_4 b c v3_1 v3_2 d a (i:Int)) .ret (aN q0 false)from JL (q0:=q0) v2_0 v2_1 v2_2 v2_3 v2_4 b c v3_1 v3_2 d a (i:Int) hd g1 hb j k l m n o p q s f g e h f1 f2 f3))
           ·exact(x (i+1) v2_4 t v).mono fun y u=>by have r:aE (av q0 v2_0 v2_1 v2_2 v2_3 v2_4 b c v3_1 v3_2 d a (i:Int)) .normal (av q0 v2_0 v2_1 v2_2 v2_3 v2_4 b c v3_1 v3_2 d a (inc (i:Int))):=JM (q0:=q0) v2_0 v2_1 v2_2 v2_3 v2_4 b c v3_1 v3_2 d a (i:Int) hd g1 hb j k l m n o p q s f g e h f1 f2 f3;rw[z]at r;cases y<;>exact V2 r u
          ·exact(x (i+1) v2_4 t v).mono fun y u=>by have r:aE (av q0 v2_0 v2_1 v2_2 v2_3 v2_4 b c v3_1 v3_2 d a (i:Int)) .normal (av q0 v2_0 v2_1 v2_2 v2_3 v2_4 b c v3_1 v3_2 d a (inc (i:Int))):=JN (q0:=q0) v2_0 v2_1 v2_2 v2_3 v2_4 b c v3_1 v3_2 d a (i:Int) hd g1 hb j k l m n o p q s f g e f1 f2 f3;rw[z]at r;cases y<;>exact V2 r u
        ·exact VZ (V3 (show aE (av q0 v2_0 v2_1 v2_2 v2_3 v2_4 b c v3_1 v3_2 d a (i:Int)) .ret (aN q0 false)from JO (q0:=q0) v2_0 v2_1 v2_2 v2_3 v2_4 b c v3_1 v3_2 d a (i:Int) hd g1 hb j k l m n o p q s f g e f1))
       ·apply V4<;>intro f4
        ·apply V4<;>intro e
         ·apply V4<;>intro f5
          ·apply V4<;>intro h
           ·apply V4<;>intro B
            ·exact VZ (V3 (show aE (av q0 v2_0 v2_1 v2_2 v2_3 v2_4 b c v3_1 v3_2 d a (i:Int)) .ret (aN q0 false)from JP (q0:=q0) v2_0 v2_1 v2_2 v2_3 v2_4 b c v3_1 v3_2 d a (i:Int) hd g1 hb j k l m n o p q s f g e h f1 f4 f5 B))
            ·exact(x (i+1) v2_4 t v).mono fun y u=>by have r:aE (av q0 v2_0 v2_1 v2_2 v2_3 v2_4 b c v3_1 v3_2 d a (i:Int)) .normal (av q0 v2_0 v2_1 v2_2 v2_3 v2_4 b c v3_1 v3_2 d a (inc (i:Int))):=JQ (q0:=q0) v2_0 v2_1 v2_2 v2_3 v2_4 b c v3_1 v3_2 d a (i:Int) hd g1 hb j k l m n o p q s f g e h f1 f4 f5 B;rw[z]at r;cases y<;>exact V2 r u
           ·exact VZ (V3 (show aE (av q0 v2_0 v2_1 v2_2 v2_3 v2_4 b c v3_1 v3_2 d a (i:Int)) .ret (aN q0 false)from Ho (q0:=q0) v2_0 v2_1 v2_2 v2_3 v2_4 b c v3_1 v3_2 d a (i:Int) hd g1 hb j k l m n o p q s f g e h f1 f4 f5))
          ·apply V4<;>intro f6
           ·apply V4<;>intro h
            ·exact VZ (V3 (show aE (av q0 v2_0 v2_1 v2_2 v2_3 v2_4 b c v3_1 v3_2 d a (i:Int)) .ret (aN q0 false)from Hp (q0:=q0) v2_0 v2_1 v2_2 v2_3 v2_4 b c v3_1 v3_2 d a (i:Int) hd g1 hb j k l m n o p q s f g e h f1 f4 f5 f6))
            ·exact(x (i+1) v2_4 t v).mono fun y u=>by have r:aE (av q0 v2_0 v2_1 v2_2 v2_3 v2_4 b c v3_1 v3_2 d a (i:Int)) .normal (av q0 v2_0 v2_1 v2_2 v2_3 v2_4 b c v3_1 v3_2 d a (inc (i:Int))):=Hq (q0:=q0) v2_0 v2_1 v2_2 v2_3 v2_4 b c v3_1 v3_2 d a (i:Int) hd g1 hb j k l m n o p q s f g e h f1 f4 f5 f6;rw[z]at r;cases y<;>exact V2 r u
           ·exact(x (i+1) v2_4 t v).mono fun y u=>by have r:aE (av q0 v2_0 v2_1 v2_2 v2_3 v2_4 b c v3_1 v3_2 d a (i:Int)) .normal (av q0 v2_0 v2_1 v2_2 v2_3 v2_4 b c v3_1 v3_2 d a (inc (i:Int))):=Hr (q0:=q0) v2_0 v2_1 v2_2 v2_3 v2_4 b c v3_1 v3_2 d a (i:Int) hd g1 hb j k l m n o p q s f g e f1 f4 f5 f6;rw[z]at r;cases y<;>exact V2 r u
         ·exact VZ (V3 (show aE (av q0 v2_0 v2_1 v2_2 v2_3 v2_4 b c v3_1 v3_2 d a (i:Int)) .ret (aN q0 false)from Hs (q0:=q0) v2_0 v2_1 v2_2 v2_3 v2_4 b c v3_1 v3_2 d a (i:Int) hd g1 hb j k l m n o p q s f g e f1 f4))
        ·apply V4<;>intro f7
         ·apply V4<;>intro e
          ·apply V4<;>intro w
           ·exact VZ (V3 (show aE (av q0 v2_0 v2_1 v2_2 v2_3 v2_4 b c v3_1 v3_2 d a (i:Int)) .ret (aN q0 false)from Ht (q0:=q0) v2_0 v2_1 v2_2 v2_3 v2_4 b c v3_1 v3_2 d a (i:Int) hd g1 hb j k l m n o p q s f g e f1 f4 f7 w))
           ·exact(x (i+1) v2_4 t v).mono fun y u=>by have r:aE (av q0 v2_0 v2_1 v2_2 v2_3 v2_4 b c v3_1 v3_2 d a (i:Int)) .normal (av q0 v2_0 v2_1 v2_2 v2_3 v2_4 b c v3_1 v3_2 d a (inc (i:Int))):=Hu (q0:=q0) v2_0 v2_1 v2_2 v2_3 v2_4 b c v3_1 v3_2 d a (i:Int) hd g1 hb j k l m n o p q s f g e f1 f4 f7 w;rw[z]at r;cases y<;>exact V2 r u
          ·exact VZ (V3 (show aE (av q0 v2_0 v2_1 v2_2 v2_3 v2_4 b c v3_1 v3_2 d a (i:Int)) .ret (aN q0 false)from Hv (q0:=q0) v2_0 v2_1 v2_2 v2_3 v2_4 b c v3_1 v3_2 d a (i:Int) hd g1 hb j k l m n o p q s f g e f1 f4 f7))
         ·apply V4<;>intro f8
          ·apply V4<;>intro e
           ·exact VZ (V3 (show aE (av q0 v2_0 v2_1 v2_2 v2_3 v2_4 b c v3_1 v3_2 d a (i:Int)) .ret (aN q0 false)from Hw (q0:=q0) v2_0 v2_1 v2_2 v2_3 v2_4 b c v3_1 v3_2 d a (i:Int) hd g1 hb j k l m n o p q s f g e f1 f4 f7 f8))
           ·exact(x (i+1) v2_4 t v).mono fun y u=>by have r:aE (av q0 v2_0 v2_1 v2_2 v2_3 v2_4 b c v3_1 v3_2 d a (i:Int)) .normal (av q0 v2_0 v2_1 v2_2 v2_3 v2_4 b c v3_1 v3_2 d a (inc (i:Int))):=Hx (q0:=q0) v2_0 v2_1 v2_2 v2_3 v2_4 b c v3_1 v3_2 d a (i:Int) hd g1 hb j k l m n o p q s f g e f1 f4 f7 f8;rw[z]at r;cases y<;>exact V2 r u
          ·exact(x (i+1) v2_4 t v).mono fun y u=>by have r:aE (av q0 v2_0 v2_1 v2_2 v2_3 v2_4 b c v3_1 v3_2 d a (i:Int)) .normal (av q0 v2_0 v2_1 v2_2 v2_3 v2_4 b c v3_1 v3_2 d a (inc (i:Int))):=Hy (q0:=q0) v2_0 v2_1 v2_2 v2_3 v2_4 b c v3_1 v3_2 d a (i:Int) hd g1 hb j k l m n o p q s f g f1 f4 f7 f8;rw[z]at r;cases y<;>exact V2 r u
      ·exact VZ (V3 (show aE (av q0 v2_0 v2_1 v2_2 v2_3 v2_4 b c v3_1 v3_2 d a (i:Int)) .ret (aN q0 false)from Hz (q0:=q0) v2_0 v2_1 v2_2 v2_3 v2_4 b c v3_1 v3_2 d a (i:Int) hd g1 hb j k l m n o p))
    ·exact VZ (V3 (show aE (av q0 v2_0 v2_1 v2_2 v2_3 v2_4 b c v3_1 v3_2 d a (i:Int)) .ret (aN q0 false)from HA (q0:=q0) v2_0 v2_1 v2_2 v2_3 v2_4 b c v3_1 v3_2 d a (i:Int) hd g1 hb j k l m n))
   ·exact VZ (V3 (show aE (av q0 v2_0 v2_1 v2_2 v2_3 v2_4 b c v3_1 v3_2 d a (i:Int)) .ret (aN q0 false)from HB (q0:=q0) v2_0 v2_1 v2_2 v2_3 v2_4 b c v3_1 v3_2 d a (i:Int) hd g1 hb j k l m))
  ·exact VZ (V3 (show aE (av q0 v2_0 v2_1 v2_2 v2_3 v2_4 b c v3_1 v3_2 d a (i:Int)) .ret (aN q0 false)from HC (q0:=q0) v2_0 v2_1 v2_2 v2_3 v2_4 b c v3_1 v3_2 d a (i:Int) hd hb j k))
noncomputable def ur (b:GDag)(a:GRun):Option (Bool):=
  cond (!(a.f0.toList==b.f0.toList))
   (some (false))
   (cond (sW a.f1)
    (cond (ak a.f2 0 1000)
     (cond ((a.f3.length:Int) != (b.f5.length:Int))
      (some (false))
      (if a.f3.length≤9223372036854775807 then(c6 b.f0 b.f1 b.f2 b.f3 b.f5 a.f0 a.f1.f0 a.f1.f1 a.f2 a.f3 a.f3 0 b.f4).bind fun y=>match y with
       | .ret c=>(some (c))
       | .x0=>(some (true))else none))
     (some (false)))
    (some (false)))
theorem QF {q0:Kd}(x0:GDag)(a:GRun):Ans (ur x0 a) (fun r=>Does E 65 [.agg (Wc .far q0 x0),.agg (We .far a)] [Wp r]):=by
 unfold ur;apply V4<;>intro b
 ·exact VZ (DP Tryz.f65 [.b true] (AC b<|AN))
 ·apply V4<;>intro c
  ·apply V4<;>intro e
   ·apply V4<;>intro g
    ·exact VZ (DP Tryz.f65 [.b false,rT,rT,Wu (a.f3.length:Int),Wu (x0.f5.length:Int),.b true] (AC b<|AD (V9 (oM a.f1) c)<|AD (V9 (am a.f2 0 1000) e)<|ALn a.f3 Wi<|ALn x0.f5 (Wj q0)<|AC g<|AN))
    ·apply V6;intro h;apply V5;intro y f;replace f:=Oa (q0:=q0) x0.f0 x0.f1 x0.f2 x0.f3 x0.f5 a.f0 a.f1.f0 a.f1.f1 a.f2 a.f3 a.f3 0 x0.f4 rfl h y f;cases y with
     |ret d =>have i:=f;exact VZ (DP Tryz.f65 [.b false,rT,rT,Wu (a.f3.length:Int),Wu (x0.f5.length:Int),.b false,.lp .ret (aN q0 d)] (AC b<|AD (V9 (oM a.f1) c)<|AD (V9 (am a.f2 0 1000) e)<|ALn a.f3 Wi<|ALn x0.f5 (Wj q0)<|AC g<|AL i<|AN))
     |x0 =>have i:=f;exact VZ (DP Tryz.f65 [.b false,rT,rT,Wu (a.f3.length:Int),Wu (x0.f5.length:Int),.b false,.lp (.exit 0) (py q0)] (AC b<|AD (V9 (oM a.f1) c)<|AD (V9 (am a.f2 0 1000) e)<|ALn a.f3 Wi<|ALn x0.f5 (Wj q0)<|AC g<|AL i<|AN))
   ·exact VZ (DP Tryz.f65 [.b false,rT,rF] (AC b<|AD (V9 (oM a.f1) c)<|AD (V9 (am a.f2 0 1000) e)<|AN))
  ·exact VZ (DP Tryz.f65 [.b false,rF] (AC b<|AD (V9 (oM a.f1) c)<|AN))
def QJ (x:GState)(m:Int)(done a:Bool):Bool :=ak x.f0 0 4&&(ak x.f1 0 m&&(ak x.f2 0 1000000000&&((decide (x.f2>0)==(x.f0==1))&&(ak x.f3 0 68374179&&(cond (x.f0==1 ||x.f0==2) done (cond (x.f0==4) a (cond (x.f0==0) (!a) true)))))))
noncomputable def qi (d:GDag)(r:GRun)(i:Int):Bool:=match ar r.f3 i,ar d.f5 i with
 |some x,some t=>QJ x (inc t.f2) (bX d r i).1 (bf d r i).2
 |_,_=>false
theorem BT {x:Int}{a b:Int}(h:(x==a)=true)(c:a≠b):(x==b)=false:=by rw[Yc]at h;rw[Xy];omega
theorem Su (d:GDag)(r:GRun)(i:Int)(h:ab.sm d)(hd:aY d=true)(a:r.f3.length=d.f5.length)(hi:0≤i∧i<(d.f5.length:Int)):sB d r i=some (qi d r i):=by
 obtain⟨t,b,_⟩:=eK hi;obtain⟨x,c,_⟩:=eK (l:=r.f3) (k:=i) (by omega);unfold sB qi QJ;simp only[b,c,Wy,Wz h,Wz hd,Wz a,Wz hi];cases ak x.f0 0 4<;>cases ak x.f1 0 (inc t.f2)<;>cases ak x.f2 0 1000000000<;>cases ak x.f3 0 68374179<;>cases(decide (x.f2>0)==(x.f0==1))<;>try rfl
 cases x.f0==1<;>cases x.f0==2<;>cases x.f0==4<;>cases x.f0==0<;>rfl
theorem CM {q0:Kd}(a:GDag)(c:GRun)(b:Int)(h:ab.sm a)(hd:aY a=true)(d:c.f3.length=a.f5.length)(hi:0≤b∧b<(a.f5.length:Int)):Does E 119 [.agg (Wc .far q0 a),.agg (We .far c),Wr b] [Wp (qi a c b)]:=by exact No a c b _ (Su a c b h hd d hi)
inductive Fg where|ret (v4:Bool)|x0
def nL (q0:Kd)(v2_0 v2_1:Zz)(v2_2 v2_3:Int)(v2_4:Bool)(a:List GTask)(b:Zz)(v3_1 v3_2 c:Int)(d:List GState)(e f:Int):US:=stL 44 [(2,.box () [tS v2_0,tS v2_1,tI v2_2,tI v2_3,tB v2_4,Wx 5 (a.map (Wj q0))]),(3,.box () [tS b,tI v3_1,tI v3_2,tI c,Wx 4 (d.map Wi)]),(34,Wr e),(35,Wr f)]
def tf (q0:Kd)(a:Bool):US:=stL 44 [(4,Ws a)]
def uV (q0:Kd)  : US:=stL 44 []
abbrev zb:US→Exit→US→Prop:=Round E 101 (aq Tryz.f101 0)
def PY {q0:Kd}(v2_0 v2_1:Zz)(v2_2 v2_3:Int)(v2_4:Bool)(a:List GTask)(b:Zz)(v3_1 v3_2 c:Int)(d:List GState)(e f:Int):Fg→Prop| .ret g=>Loops E 101 (aq Tryz.f101 0) (nL q0 v2_0 v2_1 v2_2 v2_3 v2_4 a b v3_1 v3_2 c d e f) .ret (tf q0 g)| .x0=>Loops E 101 (aq Tryz.f101 0) (nL q0 v2_0 v2_1 v2_2 v2_3 v2_4 a b v3_1 v3_2 c d e f) (.exit 0) (uV q0)
noncomputable def lV (v2_0 v2_1:Zz)(v2_2 v2_3:Int)(a:List GTask)(b:Zz)(v3_1 v3_2 c:Int)(d:List GState):List GState→Nat→Bool→Option Fg|[],i,v2_4=>some (.x0)|hd::rest,i,v2_4=>if ab.sm (GDag.mk v2_0 v2_1 v2_2 v2_3 v2_4 a)then if aY (GDag.mk v2_0 v2_1 v2_2 v2_3 v2_4 a)=true then if(GRun.mk b (GSpan.mk v3_1 v3_2) c d).f3.length=(GDag.mk v2_0 v2_1 v2_2 v2_3 v2_4 a).f5.length then if 0≤(i:Int)∧(i:Int)<((GDag.mk v2_0 v2_1 v2_2 v2_3 v2_4 a).f5.length:Int)then cond (qi (GDag.mk v2_0 v2_1 v2_2 v2_3 v2_4 a) (GRun.mk b (GSpan.mk v3_1 v3_2) c d) (i:Int)) (lV v2_0 v2_1 v2_2 v2_3 a b v3_1 v3_2 c d rest (i+1) v2_4) (some (.ret false))else none else none else none else none
theorem PX {q0:Kd}(v2_0 v2_1:Zz)(v2_2 v2_3:Int)(b:List GTask)(c:Zz)(v3_1 v3_2 d:Int)(a:List GState)(rest:List GState):∀(i:Nat)(v2_4:Bool),(a).drop i=rest→a.length≤9223372036854775807→Ans (lV v2_0 v2_1 v2_2 v2_3 b c v3_1 v3_2 d a rest i v2_4) (PY (q0:=q0) v2_0 v2_1 v2_2 v2_3 v2_4 b c v3_1 v3_2 d a (a.length:Int) (i:Int)):=by
 induction rest with
 |nil =>intro i v2_4 e f;have hb:=aP e;unfold lV;exact VZ (V3 (show zb (nL q0 v2_0 v2_1 v2_2 v2_3 v2_4 b c v3_1 v3_2 d a (a.length:Int) (i:Int)) (.exit 0) (uV q0)from RP [.b false] (AC hb<|AN)))
 |cons hd rest o =>
  intro i v2_4 e f;have hb:=aI e;have p:=aJ e f;have g:=az e;have s:=aK e;unfold lV;apply V6;intro h;apply V6;intro j;apply V6;intro l;apply V6;intro m;apply V4<;>intro n
  ·exact(o (i+1) v2_4 g f).mono fun y q=>by have r:zb (nL q0 v2_0 v2_1 v2_2 v2_3 v2_4 b c v3_1 v3_2 d a (a.length:Int) (i:Int)) .normal (nL q0 v2_0 v2_1 v2_2 v2_3 v2_4 b c v3_1 v3_2 d a (a.length:Int) (inc (i:Int))):=RP [.b true,rT] (AC hb<|AV (ψ:=fun k=>E.C k 119 [.agg (Wc .far q0 (GDag.mk v2_0 v2_1 v2_2 v2_3 v2_4 b)),.agg (We .far (GRun.mk c (GSpan.mk v3_1 v3_2) d a)),Wr (i:Int)]=some [Wp true]) (V7 (CM (GDag.mk v2_0 v2_1 v2_2 v2_3 v2_4 b) (GRun.mk c (GSpan.mk v3_1 v3_2) d a) (i:Int) h j l m) (by rw[n]))<|AN);rw[p]at r;cases y<;>exact V2 r q
  ·exact VZ (V3 (show zb (nL q0 v2_0 v2_1 v2_2 v2_3 v2_4 b c v3_1 v3_2 d a (a.length:Int) (i:Int)) .ret (tf q0 false)from RP [.b true,rF] (AC hb<|AV (ψ:=fun k=>E.C k 119 [.agg (Wc .far q0 (GDag.mk v2_0 v2_1 v2_2 v2_3 v2_4 b)),.agg (We .far (GRun.mk c (GSpan.mk v3_1 v3_2) d a)),Wr (i:Int)]=some [Wp false]) (V7 (CM (GDag.mk v2_0 v2_1 v2_2 v2_3 v2_4 b) (GRun.mk c (GSpan.mk v3_1 v3_2) d a) (i:Int) h j l m) (by rw[n]))<|AN)))
noncomputable def vY (b:GDag)(a:GRun):Option (Bool):=
  cond (!(a.f0.toList==b.f0.toList))
   (some (false))
   (cond (sW a.f1)
    (cond (ak a.f2 0 1000)
     (cond ((a.f3.length:Int) != (b.f5.length:Int))
      (some (false))
      (if a.f3.length≤9223372036854775807 then(lV b.f0 b.f1 b.f2 b.f3 b.f5 a.f0 a.f1.f0 a.f1.f1 a.f2 a.f3 a.f3 0 b.f4).bind fun y=>match y with
       | .ret c=>(some (c))
       | .x0=>(some (true))else none))
     (some (false)))
    (some (false)))
theorem RE {q0:Kd}(x0:GDag)(a:GRun):Ans (vY x0 a) (fun r=>Does E 101 [.agg (Wc .far q0 x0),.agg (We .far a)] [Wp r]):=by
 unfold vY;apply V4<;>intro b
 ·exact VZ (DP Tryz.f101 [.b true] (AC b<|AN))
 ·apply V4<;>intro c
  ·apply V4<;>intro e
   ·apply V4<;>intro g
    ·exact VZ (DP Tryz.f101 [.b false,rT,rT,Wu (a.f3.length:Int),Wu (x0.f5.length:Int),.b true] (AC b<|AD (V9 (qm a.f1) c)<|AD (V9 (aG a.f2 0 1000) e)<|ALn a.f3 Wi<|ALn x0.f5 (Wj q0)<|AC g<|AN))
    ·apply V6;intro h;apply V5;intro y f;replace f:=PX (q0:=q0) x0.f0 x0.f1 x0.f2 x0.f3 x0.f5 a.f0 a.f1.f0 a.f1.f1 a.f2 a.f3 a.f3 0 x0.f4 rfl h y f;cases y with
     |ret d =>have i:=f;exact VZ (DP Tryz.f101 [.b false,rT,rT,Wu (a.f3.length:Int),Wu (x0.f5.length:Int),.b false,Wu (a.f3.length:Int),.lp .ret (tf q0 d)] (AC b<|AD (V9 (qm a.f1) c)<|AD (V9 (aG a.f2 0 1000) e)<|ALn a.f3 Wi<|ALn x0.f5 (Wj q0)<|AC g<|ALn a.f3 Wi<|AL i<|AN))
     |x0 =>have i:=f;exact VZ (DP Tryz.f101 [.b false,rT,rT,Wu (a.f3.length:Int),Wu (x0.f5.length:Int),.b false,Wu (a.f3.length:Int),.lp (.exit 0) (uV q0)] (AC b<|AD (V9 (qm a.f1) c)<|AD (V9 (aG a.f2 0 1000) e)<|ALn a.f3 Wi<|ALn x0.f5 (Wj q0)<|AC g<|ALn a.f3 Wi<|AL i<|AN))
   ·exact VZ (DP Tryz.f101 [.b false,rT,rF] (AC b<|AD (V9 (qm a.f1) c)<|AD (V9 (aG a.f2 0 1000) e)<|AN))
  ·exact VZ (DP Tryz.f101 [.b false,rF] (AC b<|AD (V9 (qm a.f1) c)<|AN))
noncomputable def kQ (d:GDag)(r:GRun):List GState→Nat→Bool|[],_=>true|_::l,i=>qi d r (i:Int)&&kQ d r l (i+1)
noncomputable def gF (d:GDag)(r:GRun):Bool :=(r.f0.toList==d.f0.toList)&&(sW r.f1&&(ak r.f2 0 1000&&(((r.f3.length:Int)==(d.f5.length:Int))&&kQ d r r.f3 0)))
theorem OO (d:GDag)(r:GRun)(h:ab.sm d)(hd:aY d=true)(b:r.f3.length=d.f5.length):∀(l:List GState)(i:Nat),r.f3.drop i=l→c6 d.f0 d.f1 d.f2 d.f3 d.f5 r.f0 r.f1.f0 r.f1.f1 r.f2 r.f3 l i d.f4=some (cond (kQ d r l i) .x0 (.ret false))
 |[],i,_=>rfl
 |x::l,i,a=>by
  have e:GDag.mk d.f0 d.f1 d.f2 d.f3 d.f4 d.f5=d:=rfl;have g:GRun.mk r.f0 (GSpan.mk r.f1.f0 r.f1.f1) r.f2 r.f3=r:=rfl;have j:=aK a;have k:=oP a;have hi:0≤(i:Int)∧(i:Int)<(d.f5.length:Int):=by omega
  obtain⟨t,c,_⟩:=eK hi;have m:=OO d r h hd b l (i+1) (az a);have n:qi d r (i:Int)=QJ x (inc t.f2) (bX d r (i:Int)).1 (bf d r (i:Int)).2:=by unfold qi;rw[j,c]
  have o:ax d r (i:Int)=((bX d r (i:Int)).1,(bf d r (i:Int)).2):=rfl;unfold c6 kQ;rw[n];unfold QJ;simp only[c,Wy,e,g,Wz h,Wz hd,Wz b,Wz hi,m,o];cases ak x.f0 0 4<;>cases ak x.f1 0 (inc t.f2)<;>cases ak x.f2 0 1000000000<;>cases ak x.f3 0 68374179<;>cases(decide (x.f2>0)==(x.f0==1))<;>try rfl
  cases q1:x.f0==1
  ·cases f:x.f0==2
   ·cases p:x.f0==4
    ·cases x.f0==0<;>cases(bf d r (i:Int)).2<;>rfl
    ·rw[BT p (by decide:(4:Int)≠0)];cases(bf d r (i:Int)).2<;>rfl
   ·rw[BT f (by decide:(2:Int)≠4),BT f (by decide:(2:Int)≠0)];cases(bX d r (i:Int)).1<;>rfl
  ·rw[BT q1 (by decide:(1:Int)≠4),BT q1 (by decide:(1:Int)≠0)];cases(bX d r (i:Int)).1<;>rfl
theorem ON (d:GDag)(r:GRun)(h:ab.sm d)(hd:aY d=true)(b:r.f3.length=d.f5.length):∀(l:List GState)(i:Nat),r.f3.drop i=l→lV d.f0 d.f1 d.f2 d.f3 d.f5 r.f0 r.f1.f0 r.f1.f1 r.f2 r.f3 l i d.f4=some (cond (kQ d r l i) .x0 (.ret false))
 |[],i,_=>rfl
 |x::l,i,a=>by
  have e:GDag.mk d.f0 d.f1 d.f2 d.f3 d.f4 d.f5=d:=rfl;have c:GRun.mk r.f0 (GSpan.mk r.f1.f0 r.f1.f1) r.f2 r.f3=r:=rfl;have f:=oP a;have hi:0≤(i:Int)∧(i:Int)<(d.f5.length:Int):=by omega
  unfold lV kQ;simp only[e,c,Wz h,Wz hd,Wz b,Wz hi,ON d r h hd b l (i+1) (az a)];cases qi d r (i:Int)<;>rfl
theorem Do (d:GDag)(r:GRun)(h:ab.sm d)(hd:aY d=true):ur d r=some (gF d r)∧vY d r=some (gF d r):=by
 have b:=(rx hd).1;unfold ur vY gF;cases r.f0.toList==d.f0.toList<;>cases sW r.f1<;>cases ak r.f2 0 1000<;>try exact⟨rfl,rfl⟩
 have e:((r.f3.length:Int) != (d.f5.length:Int))= !((r.f3.length:Int)==(d.f5.length:Int)):=rfl;rw[e];cases q:((r.f3.length:Int)==(d.f5.length:Int))with
 |false=>exact⟨rfl,rfl⟩
 |true =>
  have a:r.f3.length=d.f5.length:=by rw[Yc]at q;omega
  simp only[Xq,WO,WK,YQ,Xa,Wz (show r.f3.length≤9223372036854775807 by omega),OO d r h hd a r.f3 0 rfl,ON d r h hd a r.f3 0 rfl];cases kQ d r r.f3 0<;>exact⟨rfl,rfl⟩
theorem LQ {d:GDag}{r:GRun}(h:gF d r=true):r.f3.length=d.f5.length:=by unfold gF at h;simp only[W0,Yc]at h;omega
theorem O5 {q0:Kd}(a:GDag)(b:GRun)(h:ab.sm a)(hd:aY a=true):Does E 65 [.agg (Wc .far q0 a),.agg (We .far b)] [Wp (gF a b)]:=by exact QF a b _ (Do a b h hd).1
theorem QW {q0:Kd}(a:GDag)(b:GRun)(h:ab.sm a)(hd:aY a=true):Does E 101 [.agg (Wc .far q0 a),.agg (We .far b)] [Wp (gF a b)]:=by exact RE a b _ (Do a b h hd).2
noncomputable def wt (a:GDag)(b:GRun):Option (Bool):=if ab.sm a then cond (aY a) (if aY a=true then some (gF a b)else none) (some (false))else none
theorem Sk {q0:Kd}(a:GDag)(b:GRun):Ans (wt a b) (fun r=>Does E 38 [.agg (Wc .far q0 a),.agg (We .far b)] [Wp r]):=by
 unfold wt;apply V6;intro c;apply V4<;>intro d
 ·apply V6;intro e;exact VZ (DP Tryz.f38 [rT,.ret [Wp (gF a b)]] (AV (ψ:=fun k=>E.C k 64 [.agg (Wc .far q0 a)]=some [Wp true]) (V7 (lD a c) (by rw[d]))<|AV (ψ:=fun k=>E.C k 65 [.agg (Wc .far q0 a),.agg (We .far b)]=some [Wp (gF a b)]) (O5 a b c e)<|AN))
 ·exact VZ (DP Tryz.f38 [rF] (AV (ψ:=fun k=>E.C k 64 [.agg (Wc .far q0 a)]=some [Wp false]) (V7 (lD a c) (by rw[d]))<|AN))
noncomputable def vU (a:GDag)(b:GRun):Option (Bool):=if ab.sm a then cond (aY a) (if aY a=true then some (gF a b)else none) (some (false))else none
theorem RA {q0:Kd}(a:GDag)(b:GRun):Ans (vU a b) (fun r=>Does E 78 [.agg (Wc .far q0 a),.agg (We .far b)] [Wp r]):=by
 unfold vU;apply V6;intro c;apply V4<;>intro d
 ·apply V6;intro e;exact VZ (DP Tryz.f78 [rT,.ret [Wp (gF a b)]] (AV (ψ:=fun k=>E.C k 100 [.agg (Wc .far q0 a)]=some [Wp true]) (V7 (HO a c) (by rw[d]))<|AV (ψ:=fun k=>E.C k 101 [.agg (Wc .far q0 a),.agg (We .far b)]=some [Wp (gF a b)]) (QW a b c e)<|AN))
 ·exact VZ (DP Tryz.f78 [rF] (AV (ψ:=fun k=>E.C k 100 [.agg (Wc .far q0 a)]=some [Wp false]) (V7 (HO a c) (by rw[d]))<|AN))
noncomputable def pm (d:GDag)(r:GRun):Bool:=aY d&&gF d r
theorem Jo (d:GDag)(r:GRun)(h:ab.sm d):wt d r=some (pm d r):=by
 unfold wt pm;cases aY d
 ·simp only[Wz h]<;>rfl
 ·simp only[Wz h,W8]<;>rfl
theorem mT {q0:Kd}(a:GDag)(b:GRun)(h:ab.sm a):Does E 38 [.agg (Wc .far q0 a),.agg (We .far b)] [Wp (pm a b)]:=by exact Sk a b _ (Jo a b h)
theorem Jn (d:GDag)(r:GRun)(h:ab.sm d):vU d r=some (pm d r):=by
 unfold vU pm;cases aY d
 ·simp only[Wz h]<;>rfl
 ·simp only[Wz h,W8]<;>rfl
theorem vB {q0:Kd}(a:GDag)(b:GRun)(h:ab.sm a):Does E 78 [.agg (Wc .far q0 a),.agg (We .far b)] [Wp (pm a b)]:=by exact RA a b _ (Jn a b h)
end
end Go.Proofs.YtlgddjncnedkgaaGreatDoor.Am
