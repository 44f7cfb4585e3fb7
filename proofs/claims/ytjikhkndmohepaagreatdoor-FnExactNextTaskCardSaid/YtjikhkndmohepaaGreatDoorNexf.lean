/- What is next. -/
import Derived.Test.YtjikhkndmohepaaGreatDoorNexb
import Derived.Test.YtjikhkndmohepaaGreatDoorNexd
namespace Go.Proofs.YtjikhkndmohepaaGreatDoor.Am
open Go
set_option linter.unusedVariables false
set_option linter.unusedSimpArgs false
section
open Go.Proofs Classical
set_option maxRecDepth 100000
noncomputable def iY (v1:Int)(v2_0:List GSession)(v2_1:List GPlan)(v2_2:List GRun)(v2_3 v2_4:Int)(v6_0:Y9)(v6_1 v6_2 v6_3:Int)(v6_4:List GState)(c d:Y9)(e f:Int)(a:List GTask):List Int→Nat→Bool→Option Cb|[],i,b=>some (.x0)|hd::rest,i,b=>(ak a hd).bind fun g1=>if ab.sm (GBoard.mk v2_0 v2_1 v2_2 v2_3 v2_4)then if ab.sm (GDag.mk c d e f b a)then if aH (GDag.mk c d e f b a)=true then if(GRun.mk v6_0 (GSpan.mk v6_1 v6_2) v6_3 v6_4).f3.length=(GDag.mk c d e f b a).f5.length then if 0≤hd∧hd<((GDag.mk c d e f b a).f5.length:Int)then cond (jp (GDag.mk c d e f b a) (GRun.mk v6_0 (GSpan.mk v6_1 v6_2) v6_3 v6_4) hd (bS (GBoard.mk v2_0 v2_1 v2_2 v2_3 v2_4) v1 hd) v2_3) (cond (decide ((a8 (GBoard.mk v2_0 v2_1 v2_2 v2_3 v2_4) g1.f1)<(aP g1.f1))) (some (.ret hd true)) (iY v1 v2_0 v2_1 v2_2 v2_3 v2_4 v6_0 v6_1 v6_2 v6_3 v6_4 c d e f a rest (i+1) b)) (iY v1 v2_0 v2_1 v2_2 v2_3 v2_4 v6_0 v6_1 v6_2 v6_3 v6_4 c d e f a rest (i+1) b)else none else none else none else none else none
theorem Mt {q0:Kd}(v1:Int)(v2_0:List GSession)(v2_1:List GPlan)(v2_2:List GRun)(v2_3 v2_4:Int)(v6_0:Y9)(v6_1 v6_2 v6_3:Int)(v6_4:List GState)(c d:Y9)(e f:Int)(g:List GTask)(b:List Int)(rest:List Int):∀(i:Nat)(a:Bool),(b).drop i=rest→b.length≤9223372036854775807→Ans (iY v1 v2_0 v2_1 v2_2 v2_3 v2_4 v6_0 v6_1 v6_2 v6_3 v6_4 c d e f g rest i a) (Mu (q0:=q0) v1 v2_0 v2_1 v2_2 v2_3 v2_4 v6_0 v6_1 v6_2 v6_3 v6_4 c d e f a g b (b.length:Int) (i:Int)):=by
 induction rest with
 |nil =>intro i a j l;have hb:=aK j;unfold iY;exact Vz (VB (show iX (di q0 v1 v2_0 v2_1 v2_2 v2_3 v2_4 v6_0 v6_1 v6_2 v6_3 v6_4 c d e f a g b (b.length:Int) (i:Int)) (.exit 0) (oE q0)from HN (q0:=q0) v1 v2_0 v2_1 v2_2 v2_3 v2_4 v6_0 v6_1 v6_2 v6_3 v6_4 c d e f a g b (b.length:Int) (i:Int) hb) (by intro h;cases h))
 |cons hd rest w =>
  intro i a j l;have hb:=aF j;have x:=aG j l;have k:=au j;have m:=aE j;unfold iY;apply VD;intro g1 n;apply VE;intro o;apply VE;intro p;apply VE;intro q;apply VE;intro s;apply VE;intro t;apply VC<;>intro u
  ·apply VC<;>intro z
   ·exact Vz (VB (show iX (di q0 v1 v2_0 v2_1 v2_2 v2_3 v2_4 v6_0 v6_1 v6_2 v6_3 v6_4 c d e f a g b (b.length:Int) (i:Int)) .ret (nj q0 hd true)from HJ (q0:=q0) v1 v2_0 v2_1 v2_2 v2_3 v2_4 v6_0 v6_1 v6_2 v6_3 v6_4 c d e f a g b (b.length:Int) (i:Int) hd g1 hb m n o p q s t u z) (by intro h;cases h))
   ·exact(w (i+1) a k l).mono fun y v=>by have r:iX (di q0 v1 v2_0 v2_1 v2_2 v2_3 v2_4 v6_0 v6_1 v6_2 v6_3 v6_4 c d e f a g b (b.length:Int) (i:Int)) .normal (di q0 v1 v2_0 v2_1 v2_2 v2_3 v2_4 v6_0 v6_1 v6_2 v6_3 v6_4 c d e f a g b (b.length:Int) (inc (i:Int))):=HL (q0:=q0) v1 v2_0 v2_1 v2_2 v2_3 v2_4 v6_0 v6_1 v6_2 v6_3 v6_4 c d e f a g b (b.length:Int) (i:Int) hd g1 hb m n o p q s t u z;rw[x]at r;cases y<;>exact VA r v
  ·exact(w (i+1) a k l).mono fun y v=>by have r:iX (di q0 v1 v2_0 v2_1 v2_2 v2_3 v2_4 v6_0 v6_1 v6_2 v6_3 v6_4 c d e f a g b (b.length:Int) (i:Int)) .normal (di q0 v1 v2_0 v2_1 v2_2 v2_3 v2_4 v6_0 v6_1 v6_2 v6_3 v6_4 c d e f a g b (b.length:Int) (inc (i:Int))):=HM (q0:=q0) v1 v2_0 v2_1 v2_2 v2_3 v2_4 v6_0 v6_1 v6_2 v6_3 v6_4 c d e f a g b (b.length:Int) (i:Int) hd g1 hb m n o p q s t u;rw[x]at r;cases y<;>exact VA r v
noncomputable def tL (a:GBoard)(e:Int):Option (Int×Bool):=
  (ak a.f2 e).bind fun b=>if ab.sm a then cond (decide ((ap a b.f0)<(0:Int)))
   (some (0,false))
   ((ak a.f1 (ap a b.f0)).bind fun g1=>cond (g1.f1)
    (some (0,false))
    (cond (decide ((aO a b.f0)≥(2:Int)))
     (some (0,false))
     (if ab.sm g1.f0 then cond (BD g1.f0 b)
      (if dn g1.f0.f5 then if(eh g1.f0).length≤9223372036854775807 then(iY e a.f0 a.f1 a.f2 a.f3 a.f4 b.f0 b.f1.f0 b.f1.f1 b.f2 b.f3 g1.f0.f0 g1.f0.f1 g1.f0.f2 g1.f0.f3 g1.f0.f5 (eh g1.f0) 0 g1.f0.f4).bind fun y=>match y with
       | .ret c d=>(some (c,d))
       | .x0=>(some (0,false))else none else none)
      (some (0,false))else none)))else none
theorem O8 {q0:Kd}(x0:GBoard)(n:Int):Ans (tL x0 n) (fun r=>Does E 18 [.agg (VI .far q0 x0),V2 n] [VX r.1,VY r.2]):=by
 unfold tL;apply VD;intro a e;apply VE;intro c;apply VC<;>intro g
 ·exact Vz (DP Tryz.f18 [.row ((VM q0) a),.ret [VX (ap x0 a.f0)],.b true] (AR (VM q0) e<|AV (ψ:=fun k=>E.C k 47 [.agg (VI .far q0 x0),V4 a.f0]=some [VX (ap x0 a.f0)]) (dV x0 a.f0 c)<|AC g<|AN))
 ·apply VD;intro g1 b;apply VC<;>intro d
  ·exact Vz (DP Tryz.f18 [.row ((VM q0) a),.ret [VX (ap x0 a.f0)],.b false,.row ([tS g1.f0.f0,tS g1.f0.f1,tI g1.f0.f2,tI g1.f0.f3,tB g1.f0.f4,.s q0 () 5 (g1.f0.f5.map (VQ q0)),tB true,tI g1.f2,tI g1.f3])] (AR (VM q0) e<|AV (ψ:=fun k=>E.C k 47 [.agg (VI .far q0 x0),V4 a.f0]=some [VX (ap x0 a.f0)]) (dV x0 a.f0 c)<|AC g<|AC (p:=0≤(ap x0 a.f0)∧(x0.f1.map (VL q0 q0))[(ap x0 a.f0).toNat]?=some ([tS g1.f0.f0,tS g1.f0.f1,tI g1.f0.f2,tI g1.f0.f3,tB g1.f0.f4,.s q0 () 5 (g1.f0.f5.map (VQ q0)),tB true,tI g1.f2,tI g1.f3])) ⟨(cq (f:=(VL q0 q0)) b).1,(cq b).2.trans (Wy some (show [tS g1.f0.f0,tS g1.f0.f1,tI g1.f0.f2,tI g1.f0.f3,tB g1.f0.f4,.s q0 () 5 (g1.f0.f5.map (VQ q0)),tB g1.f1,tI g1.f2,tI g1.f3]=[tS g1.f0.f0,tS g1.f0.f1,tI g1.f0.f2,tI g1.f0.f3,tB g1.f0.f4,.s q0 () 5 (g1.f0.f5.map (VQ q0)),tB true,tI g1.f2,tI g1.f3] by rw[d]))⟩<|AN))
  ·apply VC<;>intro l
   ·exact Vz (DP Tryz.f18 [.row ((VM q0) a),.ret [VX (ap x0 a.f0)],.b false,.row ([tS g1.f0.f0,tS g1.f0.f1,tI g1.f0.f2,tI g1.f0.f3,tB g1.f0.f4,.s q0 () 5 (g1.f0.f5.map (VQ q0)),tB false,tI g1.f2,tI g1.f3]),.ret [VX (aO x0 a.f0)],.b true] (AR (VM q0) e<|AV (ψ:=fun k=>E.C k 47 [.agg (VI .far q0 x0),V4 a.f0]=some [VX (ap x0 a.f0)]) (dV x0 a.f0 c)<|AC g<|AC (p:=0≤(ap x0 a.f0)∧(x0.f1.map (VL q0 q0))[(ap x0 a.f0).toNat]?=some ([tS g1.f0.f0,tS g1.f0.f1,tI g1.f0.f2,tI g1.f0.f3,tB g1.f0.f4,.s q0 () 5 (g1.f0.f5.map (VQ q0)),tB false,tI g1.f2,tI g1.f3])) ⟨(cq (f:=(VL q0 q0)) b).1,(cq b).2.trans (Wy some (show [tS g1.f0.f0,tS g1.f0.f1,tI g1.f0.f2,tI g1.f0.f3,tB g1.f0.f4,.s q0 () 5 (g1.f0.f5.map (VQ q0)),tB g1.f1,tI g1.f2,tI g1.f3]=[tS g1.f0.f0,tS g1.f0.f1,tI g1.f0.f2,tI g1.f0.f3,tB g1.f0.f4,.s q0 () 5 (g1.f0.f5.map (VQ q0)),tB false,tI g1.f2,tI g1.f3] by rw[d]))⟩<|AV (ψ:=fun k=>E.C k 44 [.agg (VI .far q0 x0),V4 a.f0]=some [VX (aO x0 a.f0)]) (jv x0 a.f0 c)<|AC l<|AN))
   ·apply VE;intro h;apply VC<;>intro o
    ·apply VE;intro t;apply VE;intro q;apply VD;intro y m;replace m:=Mt (q0:=q0) n x0.f0 x0.f1 x0.f2 x0.f3 x0.f4 a.f0 a.f1.f0 a.f1.f1 a.f2 a.f3 g1.f0.f0 g1.f0.f1 g1.f0.f2 g1.f0.f3 g1.f0.f5 (eh g1.f0) (eh g1.f0) 0 g1.f0.f4 rfl q y m;cases y with
     |ret i j =>have s:=m;exact Vz (DP Tryz.f18 [.row ((VM q0) a),.ret [VX (ap x0 a.f0)],.b false,.row ([tS g1.f0.f0,tS g1.f0.f1,tI g1.f0.f2,tI g1.f0.f3,tB g1.f0.f4,.s q0 () 5 (g1.f0.f5.map (VQ q0)),tB false,tI g1.f2,tI g1.f3]),.ret [VX (aO x0 a.f0)],.b false,.row ([tS g1.f0.f0,tS g1.f0.f1,tI g1.f0.f2,tI g1.f0.f3,tB g1.f0.f4,.s q0 () 5 (g1.f0.f5.map (VQ q0)),tB false,tI g1.f2,tI g1.f3]),rT,.row ([tS g1.f0.f0,tS g1.f0.f1,tI g1.f0.f2,tI g1.f0.f3,tB g1.f0.f4,.s q0 () 5 (g1.f0.f5.map (VQ q0)),tB false,tI g1.f2,tI g1.f3]),.ret [(false,[V7 1 ((eh g1.f0).map etI)])],V5 ((eh g1.f0).length:Int),.lp .ret (nj q0 i j)] (AR (VM q0) e<|AV (ψ:=fun k=>E.C k 47 [.agg (VI .far q0 x0),V4 a.f0]=some [VX (ap x0 a.f0)]) (dV x0 a.f0 c)<|AC g<|AC (p:=0≤(ap x0 a.f0)∧(x0.f1.map (VL q0 q0))[(ap x0 a.f0).toNat]?=some ([tS g1.f0.f0,tS g1.f0.f1,tI g1.f0.f2,tI g1.f0.f3,tB g1.f0.f4,.s q0 () 5 (g1.f0.f5.map (VQ q0)),tB false,tI g1.f2,tI g1.f3])) ⟨(cq (f:=(VL q0 q0)) b).1,(cq b).2.trans (Wy some (show [tS g1.f0.f0,tS g1.f0.f1,tI g1.f0.f2,tI g1.f0.f3,tB g1.f0.f4,.s q0 () 5 (g1.f0.f5.map (VQ q0)),tB g1.f1,tI g1.f2,tI g1.f3]=[tS g1.f0.f0,tS g1.f0.f1,tI g1.f0.f2,tI g1.f0.f3,tB g1.f0.f4,.s q0 () 5 (g1.f0.f5.map (VQ q0)),tB false,tI g1.f2,tI g1.f3] by rw[d]))⟩<|AV (ψ:=fun k=>E.C k 44 [.agg (VI .far q0 x0),V4 a.f0]=some [VX (aO x0 a.f0)]) (jv x0 a.f0 c)<|AC l<|AC (p:=0≤(ap x0 a.f0)∧(x0.f1.map (VL q0 q0))[(ap x0 a.f0).toNat]?=some ([tS g1.f0.f0,tS g1.f0.f1,tI g1.f0.f2,tI g1.f0.f3,tB g1.f0.f4,.s q0 () 5 (g1.f0.f5.map (VQ q0)),tB false,tI g1.f2,tI g1.f3])) ⟨(cq (f:=(VL q0 q0)) b).1,(cq b).2.trans (Wy some (show [tS g1.f0.f0,tS g1.f0.f1,tI g1.f0.f2,tI g1.f0.f3,tB g1.f0.f4,.s q0 () 5 (g1.f0.f5.map (VQ q0)),tB g1.f1,tI g1.f2,tI g1.f3]=[tS g1.f0.f0,tS g1.f0.f1,tI g1.f0.f2,tI g1.f0.f3,tB g1.f0.f4,.s q0 () 5 (g1.f0.f5.map (VQ q0)),tB false,tI g1.f2,tI g1.f3] by rw[d]))⟩<|AV (ψ:=fun k=>E.C k 48 [.agg (VK .far q0 g1.f0),.agg (VM .far a)]=some [VY true]) (VF (zF g1.f0 a h) (by rw[o]))<|AC (p:=0≤(ap x0 a.f0)∧(x0.f1.map (VL q0 q0))[(ap x0 a.f0).toNat]?=some ([tS g1.f0.f0,tS g1.f0.f1,tI g1.f0.f2,tI g1.f0.f3,tB g1.f0.f4,.s q0 () 5 (g1.f0.f5.map (VQ q0)),tB false,tI g1.f2,tI g1.f3])) ⟨(cq (f:=(VL q0 q0)) b).1,(cq b).2.trans (Wy some (show [tS g1.f0.f0,tS g1.f0.f1,tI g1.f0.f2,tI g1.f0.f3,tB g1.f0.f4,.s q0 () 5 (g1.f0.f5.map (VQ q0)),tB g1.f1,tI g1.f2,tI g1.f3]=[tS g1.f0.f0,tS g1.f0.f1,tI g1.f0.f2,tI g1.f0.f3,tB g1.f0.f4,.s q0 () 5 (g1.f0.f5.map (VQ q0)),tB false,tI g1.f2,tI g1.f3] by rw[d]))⟩<|AV (ψ:=fun k=>E.C k 49 [.agg (VK .far q0 g1.f0)]=some [(false,[V7 1 ((eh g1.f0).map etI)])]) (vS g1.f0 h t)<|ALn (eh g1.f0) etI<|AL s<|AN))
     |x0 =>have s:=m;exact Vz (DP Tryz.f18 [.row ((VM q0) a),.ret [VX (ap x0 a.f0)],.b false,.row ([tS g1.f0.f0,tS g1.f0.f1,tI g1.f0.f2,tI g1.f0.f3,tB g1.f0.f4,.s q0 () 5 (g1.f0.f5.map (VQ q0)),tB false,tI g1.f2,tI g1.f3]),.ret [VX (aO x0 a.f0)],.b false,.row ([tS g1.f0.f0,tS g1.f0.f1,tI g1.f0.f2,tI g1.f0.f3,tB g1.f0.f4,.s q0 () 5 (g1.f0.f5.map (VQ q0)),tB false,tI g1.f2,tI g1.f3]),rT,.row ([tS g1.f0.f0,tS g1.f0.f1,tI g1.f0.f2,tI g1.f0.f3,tB g1.f0.f4,.s q0 () 5 (g1.f0.f5.map (VQ q0)),tB false,tI g1.f2,tI g1.f3]),.ret [(false,[V7 1 ((eh g1.f0).map etI)])],V5 ((eh g1.f0).length:Int),.lp (.exit 0) (oE q0)] (AR (VM q0) e<|AV (ψ:=fun k=>E.C k 47 [.agg (VI .far q0 x0),V4 a.f0]=some [VX (ap x0 a.f0)]) (dV x0 a.f0 c)<|AC g<|AC (p:=0≤(ap x0 a.f0)∧(x0.f1.map (VL q0 q0))[(ap x0 a.f0).toNat]?=some ([tS g1.f0.f0,tS g1.f0.f1,tI g1.f0.f2,tI g1.f0.f3,tB g1.f0.f4,.s q0 () 5 (g1.f0.f5.map (VQ q0)),tB false,tI g1.f2,tI g1.f3])) ⟨(cq (f:=(VL q0 q0)) b).1,(cq b).2.trans (Wy some (show [tS g1.f0.f0,tS g1.f0.f1,tI g1.f0.f2,tI g1.f0.f3,tB g1.f0.f4,.s q0 () 5 (g1.f0.f5.map (VQ q0)),tB g1.f1,tI g1.f2,tI g1.f3]=[tS g1.f0.f0,tS g1.f0.f1,tI g1.f0.f2,tI g1.f0.f3,tB g1.f0.f4,.s q0 () 5 (g1.f0.f5.map (VQ q0)),tB false,tI g1.f2,tI g1.f3] by rw[d]))⟩<|AV (ψ:=fun k=>E.C k 44 [.agg (VI .far q0 x0),V4 a.f0]=some [VX (aO x0 a.f0)]) (jv x0 a.f0 c)<|AC l<|AC (p:=0≤(ap x0 a.f0)∧(x0.f1.map (VL q0 q0))[(ap x0 a.f0).toNat]?=some ([tS g1.f0.f0,tS g1.f0.f1,tI g1.f0.f2,tI g1.f0.f3,tB g1.f0.f4,.s q0 () 5 (g1.f0.f5.map (VQ q0)),tB false,tI g1.f2,tI g1.f3])) ⟨(cq (f:=(VL q0 q0)) b).1,(cq b).2.trans (Wy some (show [tS g1.f0.f0,tS g1.f0.f1,tI g1.f0.f2,tI g1.f0.f3,tB g1.f0.f4,.s q0 () 5 (g1.f0.f5.map (VQ q0)),tB g1.f1,tI g1.f2,tI g1.f3]=[tS g1.f0.f0,tS g1.f0.f1,tI g1.f0.f2,tI g1.f0.f3,tB g1.f0.f4,.s q0 () 5 (g1.f0.f5.map (VQ q0)),tB false,tI g1.f2,tI g1.f3] by rw[d]))⟩<|AV (ψ:=fun k=>E.C k 48 [.agg (VK .far q0 g1.f0),.agg (VM .far a)]=some [VY true]) (VF (zF g1.f0 a h) (by rw[o]))<|AC (p:=0≤(ap x0 a.f0)∧(x0.f1.map (VL q0 q0))[(ap x0 a.f0).toNat]?=some ([tS g1.f0.f0,tS g1.f0.f1,tI g1.f0.f2,tI g1.f0.f3,tB g1.f0.f4,.s q0 () 5 (g1.f0.f5.map (VQ q0)),tB false,tI g1.f2,tI g1.f3])) ⟨(cq (f:=(VL q0 q0)) b).1,(cq b).2.trans (Wy some (show [tS g1.f0.f0,tS g1.f0.f1,tI g1.f0.f2,tI g1.f0.f3,tB g1.f0.f4,.s q0 () 5 (g1.f0.f5.map (VQ q0)),tB g1.f1,tI g1.f2,tI g1.f3]=[tS g1.f0.f0,tS g1.f0.f1,tI g1.f0.f2,tI g1.f0.f3,tB g1.f0.f4,.s q0 () 5 (g1.f0.f5.map (VQ q0)),tB false,tI g1.f2,tI g1.f3] by rw[d]))⟩<|AV (ψ:=fun k=>E.C k 49 [.agg (VK .far q0 g1.f0)]=some [(false,[V7 1 ((eh g1.f0).map etI)])]) (vS g1.f0 h t)<|ALn (eh g1.f0) etI<|AL s<|AN))
    ·exact Vz (DP Tryz.f18 [.row ((VM q0) a),.ret [VX (ap x0 a.f0)],.b false,.row ([tS g1.f0.f0,tS g1.f0.f1,tI g1.f0.f2,tI g1.f0.f3,tB g1.f0.f4,.s q0 () 5 (g1.f0.f5.map (VQ q0)),tB false,tI g1.f2,tI g1.f3]),.ret [VX (aO x0 a.f0)],.b false,.row ([tS g1.f0.f0,tS g1.f0.f1,tI g1.f0.f2,tI g1.f0.f3,tB g1.f0.f4,.s q0 () 5 (g1.f0.f5.map (VQ q0)),tB false,tI g1.f2,tI g1.f3]),rF] (AR (VM q0) e<|AV (ψ:=fun k=>E.C k 47 [.agg (VI .far q0 x0),V4 a.f0]=some [VX (ap x0 a.f0)]) (dV x0 a.f0 c)<|AC g<|AC (p:=0≤(ap x0 a.f0)∧(x0.f1.map (VL q0 q0))[(ap x0 a.f0).toNat]?=some ([tS g1.f0.f0,tS g1.f0.f1,tI g1.f0.f2,tI g1.f0.f3,tB g1.f0.f4,.s q0 () 5 (g1.f0.f5.map (VQ q0)),tB false,tI g1.f2,tI g1.f3])) ⟨(cq (f:=(VL q0 q0)) b).1,(cq b).2.trans (Wy some (show [tS g1.f0.f0,tS g1.f0.f1,tI g1.f0.f2,tI g1.f0.f3,tB g1.f0.f4,.s q0 () 5 (g1.f0.f5.map (VQ q0)),tB g1.f1,tI g1.f2,tI g1.f3]=[tS g1.f0.f0,tS g1.f0.f1,tI g1.f0.f2,tI g1.f0.f3,tB g1.f0.f4,.s q0 () 5 (g1.f0.f5.map (VQ q0)),tB false,tI g1.f2,tI g1.f3] by rw[d]))⟩<|AV (ψ:=fun k=>E.C k 44 [.agg (VI .far q0 x0),V4 a.f0]=some [VX (aO x0 a.f0)]) (jv x0 a.f0 c)<|AC l<|AC (p:=0≤(ap x0 a.f0)∧(x0.f1.map (VL q0 q0))[(ap x0 a.f0).toNat]?=some ([tS g1.f0.f0,tS g1.f0.f1,tI g1.f0.f2,tI g1.f0.f3,tB g1.f0.f4,.s q0 () 5 (g1.f0.f5.map (VQ q0)),tB false,tI g1.f2,tI g1.f3])) ⟨(cq (f:=(VL q0 q0)) b).1,(cq b).2.trans (Wy some (show [tS g1.f0.f0,tS g1.f0.f1,tI g1.f0.f2,tI g1.f0.f3,tB g1.f0.f4,.s q0 () 5 (g1.f0.f5.map (VQ q0)),tB g1.f1,tI g1.f2,tI g1.f3]=[tS g1.f0.f0,tS g1.f0.f1,tI g1.f0.f2,tI g1.f0.f3,tB g1.f0.f4,.s q0 () 5 (g1.f0.f5.map (VQ q0)),tB false,tI g1.f2,tI g1.f3] by rw[d]))⟩<|AV (ψ:=fun k=>E.C k 48 [.agg (VK .far q0 g1.f0),.agg (VM .far a)]=some [VY false]) (VF (zF g1.f0 a h) (by rw[o]))<|AN))
inductive Bh where|x2 (v5 v6:Int)
def ij (q0:Kd)(a:List GSession)(b:List GPlan)(c:List GRun)(d e v5 v6 v7:Int)(f:Y9)(g h i:Int)(j:List GState)(k l:Y9)(m n:Int)(o:Bool)(p:List GTask)(q:Bool)(r s:Int)(v10:List Int)(v11:Int):US:=stL 108 [(1,.box () [V8 3 (a.map VN),V8 9 (b.map (VL q0 q0)),V8 5 (c.map (VM q0)),tI d,tI e]),(5,V2 v5),(6,V2 v6),(7,V2 v7),(8,.box () [tS f,tI g,tI h,tI i,V8 4 (j.map VP)]),(9,.box () [tS k,tS l,tI m,tI n,tB o,V8 5 (p.map (VQ q0)),tB q,tI r,tI s]),(10,.one (V7 1 (v10.map etI))),(11,V2 v11)]
def nH (q0:Kd)(a:List GSession)(b:List GPlan)(c:List GRun)(d e v7 f g:Int):US:=stL 108 [(1,.box () [V8 3 (a.map VN),V8 9 (b.map (VL q0 q0)),V8 5 (c.map (VM q0)),tI d,tI e]),(5,V2 f),(6,V2 g),(7,V2 v7)]
abbrev qT:US→Exit→US→Prop:=Round E 13 (an Tryz.f13 1)
def Lo {q0:Kd}(a:List GSession)(b:List GPlan)(c:List GRun)(d e v5 v6 v7:Int)(f:Y9)(g h i:Int)(j:List GState)(k l:Y9)(m n:Int)(o:Bool)(p:List GTask)(q:Bool)(r s:Int)(v10:List Int)(v11:Int):Bh→Prop| .x2 t u=>Loops E 13 (an Tryz.f13 1) (ij q0 a b c d e v5 v6 v7 f g h i j k l m n o p q r s v10 v11) (.exit 2) (nH q0 a b c d e v7 t u)
noncomputable def dg (h:List GSession)(i:List GPlan)(j:List GRun)(b k v7:Int)(l:Y9)(m o p:Int)(q:List GState)(c d:Y9)(e f:Int)(a:List GTask)(v10:List Int):Nat→Int→Int→Bool→Bool→Int→Option Bh| 0,_,_,_,_,_=>none|n+1,v5,v6,g,r,v11=>cond (decide (v11<(v10.length:Int))) ((ak v10 v11).bind fun s=>(ak a s).bind fun g1=>if ab.sm (GBoard.mk h i j b k)then if ab.sm (GDag.mk c d e f g a)then if aH (GDag.mk c d e f g a)=true then if(GRun.mk l (GSpan.mk m o) p q).f3.length=(GDag.mk c d e f g a).f5.length then cond (uh (GDag.mk c d e f g a) (GRun.mk l (GSpan.mk m o) p q) s (bS (GBoard.mk h i j b k) v7 s) b) (cond (decide ((a8 (GBoard.mk h i j b k) g1.f1)<(aP g1.f1))) (dg h i j b k v7 l m o p q c d e f a v10 n v7 s g r (inc (v10.length:Int))) (dg h i j b k v7 l m o p q c d e f a v10 n v5 v6 g r (inc v11))) (dg h i j b k v7 l m o p q c d e f a v10 n v5 v6 g r (inc v11))else none else none else none else none) (some (.x2 v5 v6))
theorem Bg {q0:Kd}(b:List GSession)(c:List GPlan)(d:List GRun)(a e v7:Int)(g:Y9)(i j l:Int)(m:List GState)(o p:Y9)(q s:Int)(t:List GTask)(w x:Int)(v10:List Int)(n:Nat):∀(v5 v6:Int)(f u:Bool)(v11:Int),Ans (dg b c d a e v7 g i j l m o p q s t v10 n v5 v6 f u v11) (Lo (q0:=q0) b c d a e v5 v6 v7 g i j l m o p q s f t u w x v10 v11):=by
 induction n with
 |zero=>intros;exact Ans.none
 |succ n D =>
  intro v5 v6 f u v11;unfold dg;apply VC<;>intro B
  ·apply VD;intro v F;apply VD;intro g1 G;apply VE;intro z;apply VE;intro H;apply VE;intro I;apply VE;intro J;apply VC<;>intro K
   ·apply VC<;>intro L
    ·have r:qT (ij q0 b c d a e v5 v6 v7 g i j l m o p q s f t u w x v10 v11) .normal (ij q0 b c d a e v7 v v7 g i j l m o p q s f t u w x v10 (inc (v10.length:Int))):=RP [V5 (v10.length:Int),.b true,.row (etI v),.row ((VQ q0) g1),.ret [VY (bS (GBoard.mk b c d a e) v7 v)],rT,.ret [VX (a8 (GBoard.mk b c d a e) g1.f1)],.ret [VX (aP g1.f1)],.b true,V5 (v10.length:Int)] (ALn v10 etI<|AC B<|AG etI F<|AR (VQ q0) G<|AV (ψ:=fun k=>E.C k 34 [.agg (VI .far q0 (GBoard.mk b c d a e)),V2 v7,V2 v]=some [VY (bS (GBoard.mk b c d a e) v7 v)]) (xF (GBoard.mk b c d a e) v7 v z)<|AV (ψ:=fun k=>E.C k 33 [.agg (VK .far q0 (GDag.mk o p q s f t)),.agg (VM .far (GRun.mk g (GSpan.mk i j) l m)),V2 v,V3 (bS (GBoard.mk b c d a e) v7 v),V2 a]=some [VY true]) (VF (um (GDag.mk o p q s f t) (GRun.mk g (GSpan.mk i j) l m) v (bS (GBoard.mk b c d a e) v7 v) a H I J) (by rw[K]))<|AV (ψ:=fun k=>E.C k 29 [.agg (VI .far q0 (GBoard.mk b c d a e)),V4 g1.f1]=some [VX (a8 (GBoard.mk b c d a e) g1.f1)]) (j8 (GBoard.mk b c d a e) g1.f1 z)<|AD (kE g1.f1)<|AC L<|ALn v10 etI<|AN);exact(D v7 v f u (inc (v10.length:Int))).mono fun y A=>by cases y<;>exact VA r A
    ·have r:qT (ij q0 b c d a e v5 v6 v7 g i j l m o p q s f t u w x v10 v11) .normal (ij q0 b c d a e v5 v6 v7 g i j l m o p q s f t u w x v10 (inc v11)):=RP [V5 (v10.length:Int),.b true,.row (etI v),.row ((VQ q0) g1),.ret [VY (bS (GBoard.mk b c d a e) v7 v)],rT,.ret [VX (a8 (GBoard.mk b c d a e) g1.f1)],.ret [VX (aP g1.f1)],.b false] (ALn v10 etI<|AC B<|AG etI F<|AR (VQ q0) G<|AV (ψ:=fun k=>E.C k 34 [.agg (VI .far q0 (GBoard.mk b c d a e)),V2 v7,V2 v]=some [VY (bS (GBoard.mk b c d a e) v7 v)]) (xF (GBoard.mk b c d a e) v7 v z)<|AV (ψ:=fun k=>E.C k 33 [.agg (VK .far q0 (GDag.mk o p q s f t)),.agg (VM .far (GRun.mk g (GSpan.mk i j) l m)),V2 v,V3 (bS (GBoard.mk b c d a e) v7 v),V2 a]=some [VY true]) (VF (um (GDag.mk o p q s f t) (GRun.mk g (GSpan.mk i j) l m) v (bS (GBoard.mk b c d a e) v7 v) a H I J) (by rw[K]))<|AV (ψ:=fun k=>E.C k 29 [.agg (VI .far q0 (GBoard.mk b c d a e)),V4 g1.f1]=some [VX (a8 (GBoard.mk b c d a e) g1.f1)]) (j8 (GBoard.mk b c d a e) g1.f1 z)<|AD (kE g1.f1)<|AC L<|AN);exact(D v5 v6 f u (inc v11)).mono fun y A=>by cases y<;>exact VA r A
   ·have r:qT (ij q0 b c d a e v5 v6 v7 g i j l m o p q s f t u w x v10 v11) .normal (ij q0 b c d a e v5 v6 v7 g i j l m o p q s f t u w x v10 (inc v11)):=RP [V5 (v10.length:Int),.b true,.row (etI v),.row ((VQ q0) g1),.ret [VY (bS (GBoard.mk b c d a e) v7 v)],rF] (ALn v10 etI<|AC B<|AG etI F<|AR (VQ q0) G<|AV (ψ:=fun k=>E.C k 34 [.agg (VI .far q0 (GBoard.mk b c d a e)),V2 v7,V2 v]=some [VY (bS (GBoard.mk b c d a e) v7 v)]) (xF (GBoard.mk b c d a e) v7 v z)<|AV (ψ:=fun k=>E.C k 33 [.agg (VK .far q0 (GDag.mk o p q s f t)),.agg (VM .far (GRun.mk g (GSpan.mk i j) l m)),V2 v,V3 (bS (GBoard.mk b c d a e) v7 v),V2 a]=some [VY false]) (VF (um (GDag.mk o p q s f t) (GRun.mk g (GSpan.mk i j) l m) v (bS (GBoard.mk b c d a e) v7 v) a H I J) (by rw[K]))<|AN);exact(D v5 v6 f u (inc v11)).mono fun y A=>by cases y<;>exact VA r A
  ·exact Vz (VB (show qT (ij q0 b c d a e v5 v6 v7 g i j l m o p q s f t u w x v10 v11) (.exit 2) (nH q0 b c d a e v7 v5 v6)from RP [V5 (v10.length:Int),.b false] (ALn v10 etI<|AC B<|AN)) (by intro h;cases h))
inductive u3 where|x0 (v5 v6:Int)
def dI (q0:Kd)(a:List GSession)(b:List GPlan)(c:List GRun)(d e v5 v6 v7:Int):US:=stL 108 [(1,.box () [V8 3 (a.map VN),V8 9 (b.map (VL q0 q0)),V8 5 (c.map (VM q0)),tI d,tI e]),(5,V2 v5),(6,V2 v6),(7,V2 v7)]
def rG (q0:Kd)(a b:Int):US:=stL 108 [(5,V2 a),(6,V2 b)]
abbrev kW:US→Exit→US→Prop:=Round E 13 (an Tryz.f13 0)
def Ln {q0:Kd}(a:List GSession)(b:List GPlan)(c:List GRun)(d e v5 v6 v7:Int):u3→Prop| .x0 f g=>Loops E 13 (an Tryz.f13 0) (dI q0 a b c d e v5 v6 v7) (.exit 0) (rG q0 f g)
noncomputable def dJ (c:List GSession)(a:List GPlan)(b:List GRun)(d e:Int):List GRun→Nat→Int→Int→Option u3
 |[],i,v5,v6=>some (.x0 v5 v6)
 |hd::rest,i,v5,v6=>if ab.sm (GBoard.mk c a b d e)then(ak a (ap (GBoard.mk c a b d e) hd.f0)).bind fun g1=>cond (g1.f1)
  (dJ c a b d e rest (i+1) v5 v6)
  (cond (decide ((aO (GBoard.mk c a b d e) hd.f0)≥(2:Int)))
   (dJ c a b d e rest (i+1) v5 v6)
   (cond (decide (v5≥(0:Int)))
    ((ak b v5).bind fun h=>cond (decide (h.f1.f0≤hd.f1.f0))
     (dJ c a b d e rest (i+1) v5 v6)
     (if ab.sm g1.f0.f5 then if dn g1.f0.f5 then(dg c a b d e (i:Int) hd.f0 hd.f1.f0 hd.f1.f1 hd.f2 hd.f3 g1.f0.f0 g1.f0.f1 g1.f0.f2 g1.f0.f3 g1.f0.f5 (bX g1.f0.f5) 9223372036854775808 v5 v6 g1.f0.f4 false 0).bind fun y=>match y with
      | .x2 f g=>(dJ c a b d e rest (i+1) f g)else none else none))
    (if ab.sm g1.f0.f5 then if dn g1.f0.f5 then(dg c a b d e (i:Int) hd.f0 hd.f1.f0 hd.f1.f1 hd.f2 hd.f3 g1.f0.f0 g1.f0.f1 g1.f0.f2 g1.f0.f3 g1.f0.f5 (bX g1.f0.f5) 9223372036854775808 v5 v6 g1.f0.f4 false 0).bind fun y=>match y with
     | .x2 f g=>(dJ c a b d e rest (i+1) f g)else none else none)))else none
theorem Lm {q0:Kd}(c:List GSession)(b:List GPlan)(a:List GRun)(d e:Int)(rest:List GRun):∀(i:Nat)(v5 v6:Int),(a).drop i=rest→a.length≤9223372036854775807→Ans (dJ c b a d e rest i v5 v6) (Ln (q0:=q0) c b a d e v5 v6 (i:Int)):=by
 induction rest with
 |nil =>intro i v5 v6 s q;have hb:=aK s;unfold dJ;exact Vz (VB (show kW (dI q0 c b a d e v5 v6 (i:Int)) (.exit 0) (rG q0 v5 v6)from RP [V5 (a.length:Int),.b false] (ALn a (VM q0)<|AC hb<|AN)) (by intro h;cases h))
 |cons hd rest t =>
  intro i v5 v6 s q;have hb:=aF s;have u:=aG s q;have m:=au s;have v:=aE s;unfold dJ;apply VE;intro o;apply VD;intro g1 n;apply VC<;>intro w
  ·exact(t (i+1) v5 v6 m q).mono fun y l=>by have r:kW (dI q0 c b a d e v5 v6 (i:Int)) .normal (dI q0 c b a d e v5 v6 (inc (i:Int))):=RP [V5 (a.length:Int),.b true,.row ((VM q0) hd),.ret [VX (ap (GBoard.mk c b a d e) hd.f0)],.row ([tS g1.f0.f0,tS g1.f0.f1,tI g1.f0.f2,tI g1.f0.f3,tB g1.f0.f4,.s q0 () 5 (g1.f0.f5.map (VQ q0)),tB true,tI g1.f2,tI g1.f3])] (ALn a (VM q0)<|AC hb<|AR (VM q0) v<|AV (ψ:=fun k=>E.C k 30 [.agg (VI .far q0 (GBoard.mk c b a d e)),V4 hd.f0]=some [VX (ap (GBoard.mk c b a d e) hd.f0)]) (c7 (GBoard.mk c b a d e) hd.f0 o)<|AC (p:=0≤(ap (GBoard.mk c b a d e) hd.f0)∧(b.map (VL q0 q0))[(ap (GBoard.mk c b a d e) hd.f0).toNat]?=some ([tS g1.f0.f0,tS g1.f0.f1,tI g1.f0.f2,tI g1.f0.f3,tB g1.f0.f4,.s q0 () 5 (g1.f0.f5.map (VQ q0)),tB true,tI g1.f2,tI g1.f3])) ⟨(cq (f:=(VL q0 q0)) n).1,(cq n).2.trans (Wy some (show [tS g1.f0.f0,tS g1.f0.f1,tI g1.f0.f2,tI g1.f0.f3,tB g1.f0.f4,.s q0 () 5 (g1.f0.f5.map (VQ q0)),tB g1.f1,tI g1.f2,tI g1.f3]=[tS g1.f0.f0,tS g1.f0.f1,tI g1.f0.f2,tI g1.f0.f3,tB g1.f0.f4,.s q0 () 5 (g1.f0.f5.map (VQ q0)),tB true,tI g1.f2,tI g1.f3] by rw[w]))⟩<|AN);rw[u]at r;cases y<;>exact VA r l
  ·apply VC<;>intro x
   ·exact(t (i+1) v5 v6 m q).mono fun y l=>by have r:kW (dI q0 c b a d e v5 v6 (i:Int)) .normal (dI q0 c b a d e v5 v6 (inc (i:Int))):=RP [V5 (a.length:Int),.b true,.row ((VM q0) hd),.ret [VX (ap (GBoard.mk c b a d e) hd.f0)],.row ([tS g1.f0.f0,tS g1.f0.f1,tI g1.f0.f2,tI g1.f0.f3,tB g1.f0.f4,.s q0 () 5 (g1.f0.f5.map (VQ q0)),tB false,tI g1.f2,tI g1.f3]),.ret [VX (aO (GBoard.mk c b a d e) hd.f0)],.b true] (ALn a (VM q0)<|AC hb<|AR (VM q0) v<|AV (ψ:=fun k=>E.C k 30 [.agg (VI .far q0 (GBoard.mk c b a d e)),V4 hd.f0]=some [VX (ap (GBoard.mk c b a d e) hd.f0)]) (c7 (GBoard.mk c b a d e) hd.f0 o)<|AC (p:=0≤(ap (GBoard.mk c b a d e) hd.f0)∧(b.map (VL q0 q0))[(ap (GBoard.mk c b a d e) hd.f0).toNat]?=some ([tS g1.f0.f0,tS g1.f0.f1,tI g1.f0.f2,tI g1.f0.f3,tB g1.f0.f4,.s q0 () 5 (g1.f0.f5.map (VQ q0)),tB false,tI g1.f2,tI g1.f3])) ⟨(cq (f:=(VL q0 q0)) n).1,(cq n).2.trans (Wy some (show [tS g1.f0.f0,tS g1.f0.f1,tI g1.f0.f2,tI g1.f0.f3,tB g1.f0.f4,.s q0 () 5 (g1.f0.f5.map (VQ q0)),tB g1.f1,tI g1.f2,tI g1.f3]=[tS g1.f0.f0,tS g1.f0.f1,tI g1.f0.f2,tI g1.f0.f3,tB g1.f0.f4,.s q0 () 5 (g1.f0.f5.map (VQ q0)),tB false,tI g1.f2,tI g1.f3] by rw[w]))⟩<|AV (ψ:=fun k=>E.C k 31 [.agg (VI .far q0 (GBoard.mk c b a d e)),V4 hd.f0]=some [VX (aO (GBoard.mk c b a d e) hd.f0)]) (gY (GBoard.mk c b a d e) hd.f0 o)<|AC x<|AN);rw[u]at r;cases y<;>exact VA r l
   ·apply VC<;>intro B
    ·apply VD;intro H z;apply VC<;>intro A
     ·exact(t (i+1) v5 v6 m q).mono fun y l=>by have r:kW (dI q0 c b a d e v5 v6 (i:Int)) .normal (dI q0 c b a d e v5 v6 (inc (i:Int))):=RP [V5 (a.length:Int),.b true,.row ((VM q0) hd),.ret [VX (ap (GBoard.mk c b a d e) hd.f0)],.row ([tS g1.f0.f0,tS g1.f0.f1,tI g1.f0.f2,tI g1.f0.f3,tB g1.f0.f4,.s q0 () 5 (g1.f0.f5.map (VQ q0)),tB false,tI g1.f2,tI g1.f3]),.ret [VX (aO (GBoard.mk c b a d e) hd.f0)],.b false,.b true,.row ((VM q0) H),.b true] (ALn a (VM q0)<|AC hb<|AR (VM q0) v<|AV (ψ:=fun k=>E.C k 30 [.agg (VI .far q0 (GBoard.mk c b a d e)),V4 hd.f0]=some [VX (ap (GBoard.mk c b a d e) hd.f0)]) (c7 (GBoard.mk c b a d e) hd.f0 o)<|AC (p:=0≤(ap (GBoard.mk c b a d e) hd.f0)∧(b.map (VL q0 q0))[(ap (GBoard.mk c b a d e) hd.f0).toNat]?=some ([tS g1.f0.f0,tS g1.f0.f1,tI g1.f0.f2,tI g1.f0.f3,tB g1.f0.f4,.s q0 () 5 (g1.f0.f5.map (VQ q0)),tB false,tI g1.f2,tI g1.f3])) ⟨(cq (f:=(VL q0 q0)) n).1,(cq n).2.trans (Wy some (show [tS g1.f0.f0,tS g1.f0.f1,tI g1.f0.f2,tI g1.f0.f3,tB g1.f0.f4,.s q0 () 5 (g1.f0.f5.map (VQ q0)),tB g1.f1,tI g1.f2,tI g1.f3]=[tS g1.f0.f0,tS g1.f0.f1,tI g1.f0.f2,tI g1.f0.f3,tB g1.f0.f4,.s q0 () 5 (g1.f0.f5.map (VQ q0)),tB false,tI g1.f2,tI g1.f3] by rw[w]))⟩<|AV (ψ:=fun k=>E.C k 31 [.agg (VI .far q0 (GBoard.mk c b a d e)),V4 hd.f0]=some [VX (aO (GBoard.mk c b a d e) hd.f0)]) (gY (GBoard.mk c b a d e) hd.f0 o)<|AC x<|AC B<|AR (VM q0) z<|AC A<|AN);rw[u]at r;cases y<;>exact VA r l
     ·apply VE;intro D;apply VE;intro F;apply VD;intro y l;replace l:=Bg (q0:=q0) c b a d e (i:Int) hd.f0 hd.f1.f0 hd.f1.f1 hd.f2 hd.f3 g1.f0.f0 g1.f0.f1 g1.f0.f2 g1.f0.f3 g1.f0.f5 g1.f2 g1.f3 (bX g1.f0.f5) 9223372036854775808 v5 v6 g1.f0.f4 false 0 y l;cases y with
      |x2 g j =>have G:=l;exact(t (i+1) g j m q).mono fun y l=>by have r:kW (dI q0 c b a d e v5 v6 (i:Int)) .normal (dI q0 c b a d e g j (inc (i:Int))):=RP [V5 (a.length:Int),.b true,.row ((VM q0) hd),.ret [VX (ap (GBoard.mk c b a d e) hd.f0)],.row ([tS g1.f0.f0,tS g1.f0.f1,tI g1.f0.f2,tI g1.f0.f3,tB g1.f0.f4,.s q0 () 5 (g1.f0.f5.map (VQ q0)),tB false,tI g1.f2,tI g1.f3]),.ret [VX (aO (GBoard.mk c b a d e) hd.f0)],.b false,.b true,.row ((VM q0) H),.b false,.ret [(false,[V7 1 ((bX g1.f0.f5).map etI)])],.lp (.exit 2) (nH q0 c b a d e (i:Int) g j)] (ALn a (VM q0)<|AC hb<|AR (VM q0) v<|AV (ψ:=fun k=>E.C k 30 [.agg (VI .far q0 (GBoard.mk c b a d e)),V4 hd.f0]=some [VX (ap (GBoard.mk c b a d e) hd.f0)]) (c7 (GBoard.mk c b a d e) hd.f0 o)<|AC (p:=0≤(ap (GBoard.mk c b a d e) hd.f0)∧(b.map (VL q0 q0))[(ap (GBoard.mk c b a d e) hd.f0).toNat]?=some ([tS g1.f0.f0,tS g1.f0.f1,tI g1.f0.f2,tI g1.f0.f3,tB g1.f0.f4,.s q0 () 5 (g1.f0.f5.map (VQ q0)),tB false,tI g1.f2,tI g1.f3])) ⟨(cq (f:=(VL q0 q0)) n).1,(cq n).2.trans (Wy some (show [tS g1.f0.f0,tS g1.f0.f1,tI g1.f0.f2,tI g1.f0.f3,tB g1.f0.f4,.s q0 () 5 (g1.f0.f5.map (VQ q0)),tB g1.f1,tI g1.f2,tI g1.f3]=[tS g1.f0.f0,tS g1.f0.f1,tI g1.f0.f2,tI g1.f0.f3,tB g1.f0.f4,.s q0 () 5 (g1.f0.f5.map (VQ q0)),tB false,tI g1.f2,tI g1.f3] by rw[w]))⟩<|AV (ψ:=fun k=>E.C k 31 [.agg (VI .far q0 (GBoard.mk c b a d e)),V4 hd.f0]=some [VX (aO (GBoard.mk c b a d e) hd.f0)]) (gY (GBoard.mk c b a d e) hd.f0 o)<|AC x<|AC B<|AR (VM q0) z<|AC A<|AV (ψ:=fun k=>E.C k 32 [.one (V8 5 (g1.f0.f5.map (VQ q0)))]=some [(false,[V7 1 ((bX g1.f0.f5).map etI)])]) (ul g1.f0.f5 D F)<|AL G<|AN);rw[u]at r;cases y<;>exact VA r l
    ·apply VE;intro z;apply VE;intro A;apply VD;intro y l;replace l:=Bg (q0:=q0) c b a d e (i:Int) hd.f0 hd.f1.f0 hd.f1.f1 hd.f2 hd.f3 g1.f0.f0 g1.f0.f1 g1.f0.f2 g1.f0.f3 g1.f0.f5 g1.f2 g1.f3 (bX g1.f0.f5) 9223372036854775808 v5 v6 g1.f0.f4 false 0 y l;cases y with
     |x2 g j =>have D:=l;exact(t (i+1) g j m q).mono fun y l=>by have r:kW (dI q0 c b a d e v5 v6 (i:Int)) .normal (dI q0 c b a d e g j (inc (i:Int))):=RP [V5 (a.length:Int),.b true,.row ((VM q0) hd),.ret [VX (ap (GBoard.mk c b a d e) hd.f0)],.row ([tS g1.f0.f0,tS g1.f0.f1,tI g1.f0.f2,tI g1.f0.f3,tB g1.f0.f4,.s q0 () 5 (g1.f0.f5.map (VQ q0)),tB false,tI g1.f2,tI g1.f3]),.ret [VX (aO (GBoard.mk c b a d e) hd.f0)],.b false,.b false,.ret [(false,[V7 1 ((bX g1.f0.f5).map etI)])],.lp (.exit 2) (nH q0 c b a d e (i:Int) g j)] (ALn a (VM q0)<|AC hb<|AR (VM q0) v<|AV (ψ:=fun k=>E.C k 30 [.agg (VI .far q0 (GBoard.mk c b a d e)),V4 hd.f0]=some [VX (ap (GBoard.mk c b a d e) hd.f0)]) (c7 (GBoard.mk c b a d e) hd.f0 o)<|AC (p:=0≤(ap (GBoard.mk c b a d e) hd.f0)∧(b.map (VL q0 q0))[(ap (GBoard.mk c b a d e) hd.f0).toNat]?=some ([tS g1.f0.f0,tS g1.f0.f1,tI g1.f0.f2,tI g1.f0.f3,tB g1.f0.f4,.s q0 () 5 (g1.f0.f5.map (VQ q0)),tB false,tI g1.f2,tI g1.f3])) ⟨(cq (f:=(VL q0 q0)) n).1,(cq n).2.trans (Wy some (show [tS g1.f0.f0,tS g1.f0.f1,tI g1.f0.f2,tI g1.f0.f3,tB g1.f0.f4,.s q0 () 5 (g1.f0.f5.map (VQ q0)),tB g1.f1,tI g1.f2,tI g1.f3]=[tS g1.f0.f0,tS g1.f0.f1,tI g1.f0.f2,tI g1.f0.f3,tB g1.f0.f4,.s q0 () 5 (g1.f0.f5.map (VQ q0)),tB false,tI g1.f2,tI g1.f3] by rw[w]))⟩<|AV (ψ:=fun k=>E.C k 31 [.agg (VI .far q0 (GBoard.mk c b a d e)),V4 hd.f0]=some [VX (aO (GBoard.mk c b a d e) hd.f0)]) (gY (GBoard.mk c b a d e) hd.f0 o)<|AC x<|AC B<|AV (ψ:=fun k=>E.C k 32 [.one (V8 5 (g1.f0.f5.map (VQ q0)))]=some [(false,[V7 1 ((bX g1.f0.f5).map etI)])]) (ul g1.f0.f5 z A)<|AL D<|AN);rw[u]at r;cases y<;>exact VA r l
noncomputable def se (b:GBoard):Option (Int×Int×Bool):=
  if b.f2.length≤9223372036854775807 then(dJ b.f0 b.f1 b.f2 b.f3 b.f4 b.f2 0 (-1:Int) (-1:Int)).bind fun y=>match y with
   | .x0 a c=>(some (a,c,decide (a≥(0:Int))))else none
theorem Nv {q0:Kd}(x0:GBoard):Ans (se x0) (fun r=>Does E 13 [.agg (VI .far q0 x0)] [VX r.1,VX r.2.1,VY r.2.2]):=by
 unfold se;apply VE;intro c;apply VD;intro y d;replace d:=Lm (q0:=q0) x0.f0 x0.f1 x0.f2 x0.f3 x0.f4 x0.f2 0 (-1:Int) (-1:Int) rfl c y d;cases y with
 |x0 a b =>have e:=d;exact Vz (DP Tryz.f13 [.lp (.exit 0) (rG q0 a b)] (AL e<|AN))
noncomputable def OP (b:GBoard)(p:GPlan)(r:GRun)(k i:Int):Bool:=jp p.f0 r i (bS b k i) b.f3&&(match ak p.f0.f5 i with
 |some t=>decide (a8 b t.f1<aP t.f1)
 |none=>false)
noncomputable def dt (b:GBoard)(p:GPlan)(r:GRun)(k:Int):List Int→Int×Bool|[]=>(0,false)|i::l=>cond (OP b p r k i) (i,true) (dt b p r k l)
noncomputable def Ey (b:GBoard)(p:GPlan)(r:GRun):Bool := !p.f1 && !decide (aO b r.f0≥2)
noncomputable def de (b:GBoard)(k:Int):Int×Bool:=match ak b.f2 k with
 |some r=>(match ak b.f1 (ap b r.f0)with
  |some p=>cond (Ey b p r) (dt b p r k (bX p.f0.f5)) (0,false)
  |none=>(0,false))
 |none=>(0,false)
def sB (b:GBoard)(u:Int)(r:GRun):Bool:=match ak b.f2 u with
 |some q=>decide (q.f1.f0≤r.f1.f0)
 |none=>false
noncomputable def ew (b:GBoard):List GRun→Nat→Int→Int→Int×Int|[],_,u,t=>(u,t)|r::l,k,u,t=>cond ((decide (u≥0)&&sB b u r)|| !(de b (k:Int)).2) (ew b l (k+1) u t) (ew b l (k+1) (k:Int) (de b (k:Int)).1)
noncomputable def et (b:GBoard):Int×Int×Bool:=((ew b b.f2 0 (-1) (-1)).1,(ew b b.f2 0 (-1) (-1)).2,decide ((ew b b.f2 0 (-1) (-1)).1≥0))
theorem DW (b:GBoard)(p:GPlan)(r:GRun)(k:Int):∀(l:List Int),(dt b p r k l).2=false→dt b p r k l=(0,false)
 |[],_=>rfl
 |i::l,h=>by
  unfold dt at h ⊢;cases q:OP b p r k i with
  |true=>rw[q]at h;cases h
  |false=>rw[q]at h;exact DW b p r k l h
theorem K0 {b:GBoard}(hb:ab.sm b)(f:a6 b.f1=true)(e:bP b=true){r:GRun}(h:r∈b.f2):∃g,ak b.f1 (ap b r.f0)=some g∧0≤ap b r.f0∧ab.sm g.f0∧aH g.f0=true∧bC g.f0 r=true:=by
 unfold bP at e;rw[Ww]at e;have i:∀(l:List GRun)(q:Option GRun),gd b q l=true→∀y∈l,xn b y=true:=by
  intro l;induction l with
  |nil=>intro q _ y hy;cases hy
  |cons x l j =>
   intro q c y hy;unfold gd at c;simp only[Ww]at c;rcases WE.1 hy with rfl|hy
   ·exact c.1
   ·exact j _ c.2.2 y hy
 have a:=i _ _ e.1 r h;unfold xn at a;cases d:ak b.f1 (ap b r.f0)with
 |none=>rw[d]at a;cases a
 |some g =>rw[d]at a;replace a:(bC g.f0 r && !decide (r.f1.f0<g.f3))=true:=a;rw[Ww]at a;obtain⟨hs,hd⟩:=rW hb f (Wd (ke d).2);exact⟨g,rfl,(ke d).1,hs,hd,a.1⟩
theorem NS (b:GBoard)(hb:ab.sm b)(p:GPlan)(hs:ab.sm p.f0)(hd:aH p.f0=true)(r:GRun)(a:r.f3.length=p.f0.f5.length)(k:Int):∀(rest:List Int)(i:Nat),(∀x∈rest,0≤x∧x<(p.f0.f5.length:Int)) →
  iY k b.f0 b.f1 b.f2 b.f3 b.f4 r.f0 r.f1.f0 r.f1.f1 r.f2 r.f3 p.f0.f0 p.f0.f1 p.f0.f2 p.f0.f3 p.f0.f5 rest i p.f0.f4=some (cond (dt b p r k rest).2 (.ret (dt b p r k rest).1 true) .x0)
 |[],i,_=>rfl
 |x::rest,i,h=>by
  have c:=h x (by simp);obtain⟨t,d,_⟩:=cA c;have e:=NS b hb p hs hd r a k rest (i+1) fun y f=>h y (by simp[f])
  have g:GBoard.mk b.f0 b.f1 b.f2 b.f3 b.f4=b:=rfl;have j:GDag.mk p.f0.f0 p.f0.f1 p.f0.f2 p.f0.f3 p.f0.f4 p.f0.f5=p.f0:=rfl;have er:GRun.mk r.f0 (GSpan.mk r.f1.f0 r.f1.f1) r.f2 r.f3=r:=rfl;unfold iY dt OP;simp only[g,j,er,d,V9,Wa hb,Wa hs,Wa hd,Wa a,Wa c,e];cases jp p.f0 r x (bS b k x) b.f3<;>cases decide (a8 b t.f1<aP t.f1)<;>rfl
theorem SM (b:GBoard)(k:Int)(hb:ab.sm b)(e:a6 b.f1=true)(f:bP b=true)(h:0≤k∧k<(b.f2.length:Int)):tL b k=some (de b k):=by
 obtain⟨r,i,j⟩:=cA h;obtain⟨g,g1,m,g3,g4,c⟩:=K0 hb e f j;obtain⟨n, -, -,d,o⟩:=mE g4;have a:BD g.f0 r=true:=by unfold BD;rw[g4,c];rfl
 have l:eh g.f0=bX g.f0.f5:=rfl;have hf:=NS b hb g g3 g4 r (uR c) k (bX g.f0.f5) 0 (G4 d).2;unfold tL de Ey;simp only[i,g1,V9,Wa hb,Wj (show ¬ap b r.f0<0 by omega),Wu,Wa g3,a,Wn,Wa d,l,Wa (show(bX g.f0.f5).length≤9223372036854775807 by omega),hf];cases g.f1<;>cases decide (aO b r.f0≥2)<;>try rfl
 cases q:(dt b g r k (bX g.f0.f5)).2 with
 |true =>show some ((dt b g r k (bX g.f0.f5)).1,true)=some (dt b g r k (bX g.f0.f5));rw[←q]
 |false =>show some (0,false)=some (dt b g r k (bX g.f0.f5));rw[DW b g r k _ q]
theorem TK {d:GDag}{i:Int}(a:d.f5.length≤4)(hi:0≤i∧i<(d.f5.length:Int)):xb d i=true:=by unfold xb ag;rw[du _ (by omega) (by omega),Wi (by omega),Wi (by omega)];rfl
theorem NT (b:GBoard)(hb:ab.sm b)(p:GPlan)(hs:ab.sm p.f0)(hd:aH p.f0=true)(r:GRun)(f:r.f3.length=p.f0.f5.length)(k:Int)(ax:List Int)(hf:∀x∈ax,0≤x∧x<(p.f0.f5.length:Int))(d:ax.length≤1000):∀(m j n:Nat)(u t:Int)(w:Bool),j+m=ax.length→m<n →
  dg b.f0 b.f1 b.f2 b.f3 b.f4 k r.f0 r.f1.f0 r.f1.f1 r.f2 r.f3 p.f0.f0 p.f0.f1 p.f0.f2 p.f0.f3 p.f0.f5 ax n u t p.f0.f4 w (j:Int)=some (.x2 (cond (dt b p r k (ax.drop j)).2 k u) (cond (dt b p r k (ax.drop j)).2 (dt b p r k (ax.drop j)).1 t))
 |m,j,0,u,t,w,_,g=>by omega
 | 0,j,n+1,u,t,w,l,g=>by have a:ax.drop j=[]:=WV (by omega);have hc:decide ((j:Int)<(ax.length:Int))=false:=Wj (by omega);rw[a];unfold dg;rw[hc];rfl
 |m+1,j,n+1,u,t,w,l,g=>by
  have c:j<ax.length:=by omega
  have a:ax.drop j=ax[j]::ax.drop (j+1):=Xk c;have hc:decide ((j:Int)<(ax.length:Int))=true:=Wi (by omega);have o:ak ax (j:Int)=some ax[j]:=by rw[cp];exact Wg c
  have h:=hf ax[j] (Xs _);obtain⟨y,q,_⟩:=cA h;have e:inc (j:Int)=((j+1:Nat):Int):=by rw[mN _ (by omega) (by omega)];omega
  have s:=NT b hb p hs hd r f k ax hf d m (j+1) n u t w (by omega) (by omega);have v:GBoard.mk b.f0 b.f1 b.f2 b.f3 b.f4=b:=rfl;have z:GDag.mk p.f0.f0 p.f0.f1 p.f0.f2 p.f0.f3 p.f0.f4 p.f0.f5=p.f0:=rfl;have er:GRun.mk r.f0 (GSpan.mk r.f1.f0 r.f1.f1) r.f2 r.f3=r:=rfl;have A:uh p.f0 r ax[j] (bS b k ax[j]) b.f3=jp p.f0 r ax[j] (bS b k ax[j]) b.f3:=by unfold uh;rw[TK (mE hd).1 h];rfl
  have stop:∀u t,dg b.f0 b.f1 b.f2 b.f3 b.f4 k r.f0 r.f1.f0 r.f1.f1 r.f2 r.f3 p.f0.f0 p.f0.f1 p.f0.f2 p.f0.f3 p.f0.f5 ax n u t p.f0.f4 w (inc (ax.length:Int))=some (.x2 u t):=fun u t=>by
   obtain⟨i,rfl⟩:∃i,n=i+1:=⟨n-1,by omega⟩
   unfold dg;rw[mN _ (by omega) (by omega),show decide ((ax.length:Int)+1<(ax.length:Int))=false from Wj (by omega)];rfl
  rw[a];unfold dg dt OP;simp only[hc,o,q,e,v,z,er,A,V9,Wn,Wa hb,Wa hs,Wa hd,Wa f,s,stop];cases jp p.f0 r ax[j] (bS b k ax[j]) b.f3<;>cases decide (a8 b y.f1<aP y.f1)<;>rfl
theorem Rd {b:GBoard}{k:Int}{r:GRun}{g:GPlan}(a:ak b.f2 k=some r)(c:ak b.f1 (ap b r.f0)=some g):de b k=cond (Ey b g r) (dt b g r k (bX g.f0.f5)) (0,false):=by unfold de;rw[a];simp only[c]
theorem Rf (b:GBoard)(hb:ab.sm b)(m:a6 b.f1=true)(n:bP b=true):∀(rest:List GRun)(i:Nat)(u t:Int),b.f2.drop i=rest → -1≤u∧u<(b.f2.length:Int) →
  dJ b.f0 b.f1 b.f2 b.f3 b.f4 rest i u t=some (.x0 (ew b rest i u t).1 (ew b rest i u t).2)
 |[],i,u,t,_,_=>rfl
 |x::rest,i,u,t,h,a=>by
  have o:=aE h;have s:=lH h;have v:x∈b.f2:=Wd (ke o).2;obtain⟨g,g1,C,g3,g4,w⟩:=K0 hb m n v;obtain⟨D, -, -,p,F⟩:=mE g4;have z:GBoard.mk b.f0 b.f1 b.f2 b.f3 b.f4=b:=rfl;have hf:=NT b hb g g3 g4 x (uR w) (i:Int) (bX g.f0.f5) (G4 p).2 (by omega) (bX g.f0.f5).length 0 9223372036854775808 u t false (by omega) (by omega);rw[WK]at hf;have f:ab.sm g.f0.f5:=g3.2.2;have e:=fun u t a=>Rf b hb m n rest (i+1) u t (au h) a
  have A:=Rd o g1;have j:(((dg b.f0 b.f1 b.f2 b.f3 b.f4 (i:Int) x.f0 x.f1.f0 x.f1.f1 x.f2 x.f3 g.f0.f0 g.f0.f1 g.f0.f2 g.f0.f3 g.f0.f5 (bX g.f0.f5) 9223372036854775808 u t g.f0.f4 false 0).bind fun y=>match y with
      | .x2 c d=>(dJ b.f0 b.f1 b.f2 b.f3 b.f4 rest (i+1) c d)):Option u3)=some (.x0 (cond (!(dt b g x (i:Int) (bX g.f0.f5)).2) (ew b rest (i+1) u t) (ew b rest (i+1) (i:Int) (dt b g x (i:Int) (bX g.f0.f5)).1)).1 (cond (!(dt b g x (i:Int) (bX g.f0.f5)).2) (ew b rest (i+1) u t) (ew b rest (i+1) (i:Int) (dt b g x (i:Int) (bX g.f0.f5)).1)).2):=by
   rw[show((0:Int))=((0:Nat):Int)from rfl,hf];cases(dt b g x (i:Int) (bX g.f0.f5)).2 with
   |true=>exact e (i:Int) _ (by omega)
   |false=>exact e _ _ a
  unfold dJ ew;rw[A];unfold Ey;simp only[z,Wa hb,g1,V9,Wa f,Wa p,j];by_cases q:u≥0
  ·obtain⟨y,r,_⟩:=cA (l:=b.f2) (k:=u) (by omega);have B:sB b u x=decide (y.f1.f0≤x.f1.f0):=by unfold sB;rw[r]
   rw[Wi q,B];simp only[r,V9,Wn];cases g.f1<;>cases decide (aO b x.f0≥2)<;>cases decide (y.f1.f0≤x.f1.f0)<;>first|rfl|exact e _ _ a
  ·rw[Wj q];cases g.f1<;>cases decide (aO b x.f0≥2)<;>first|rfl|exact e _ _ a
theorem MX (b:GBoard)(hb:ab.sm b)(a:a6 b.f1=true)(c:bP b=true):se b=some (et b):=by unfold se et;rw[Wa (bM hb.2.2),Rf b hb a c b.f2 0 (-1) (-1) rfl (by omega)];rfl
theorem tz {q0:Kd}(a:GBoard)(b:Int)(h:ab.sm a)(c:a6 a.f1=true)(d:bP a=true)(e:0≤b∧b<(a.f2.length:Int)):Does E 18 [.agg (VI .far q0 a),V2 b] [VX ((de a b).1),VY ((de a b).2)]:=by exact O8 a b _ (SM a b h c d e)
theorem LU {q0:Kd}(a:GBoard)(h:ab.sm a)(b:a6 a.f1=true)(c:bP a=true):Does E 13 [.agg (VI .far q0 a)] [VX ((et a).1),VX ((et a).2.1),VY ((et a).2.2)]:=by exact Nv a _ (MX a h b c)
noncomputable def qI (a:GBoard):Option (Int×Int×Bool):=if ab.sm a then cond (jj a) (if a6 a.f1=true then if bP a=true then some ((et a).1,(et a).2.1,(et a).2.2)else none else none) (some ((-1:Int),(-1:Int),false))else none
theorem K5 {q0:Kd}(a:GBoard):Ans (qI a) (fun r=>Does E 5 [.agg (VI .far q0 a)] [VX r.1,VX r.2.1,VY r.2.2]):=by
 unfold qI;apply VE;intro b;apply VC<;>intro c
 ·apply VE;intro d;apply VE;intro e;exact Vz (DP Tryz.f5 [rT,.ret [VX ((et a).1),VX ((et a).2.1),VY ((et a).2.2)]] (AV (ψ:=fun k=>E.C k 12 [.agg (VI .far q0 a)]=some [VY true]) (VF (BO a b) (by rw[c]))<|AV (ψ:=fun k=>E.C k 13 [.agg (VI .far q0 a)]=some [VX ((et a).1),VX ((et a).2.1),VY ((et a).2.2)]) (LU a b d e)<|AN))
 ·exact Vz (DP Tryz.f5 [rF] (AV (ψ:=fun k=>E.C k 12 [.agg (VI .far q0 a)]=some [VY false]) (VF (BO a b) (by rw[c]))<|AN))
inductive yU where|x0 (v5 v6:Int) (v7:Bool)
def cH (q0:Kd)(a:List GSession)(b:List GPlan)(c:List GRun)(d e v5 v6:Int)(v7:Bool)(v16:List GRun)(f g:Int):US:=stL 50 [(1,.box () [V8 3 (a.map VN),V8 9 (b.map (VL q0 q0)),V8 5 (c.map (VM q0)),tI d,tI e]),(5,V2 v5),(6,V2 v6),(7,V3 v7),(16,.one (V8 5 (v16.map (VM q0)))),(17,V2 f),(18,V2 g)]
def mj (q0:Kd)(a b:Int)(c:Bool):US:=stL 50 [(5,V2 a),(6,V2 b),(7,V3 c)]
abbrev iG:US→Exit→US→Prop:=Round E 7 (an Tryz.f7 0)
def HH {q0:Kd}(a:List GSession)(b:List GPlan)(c:List GRun)(d e v5 v6:Int)(v7:Bool)(v16:List GRun)(f g:Int):yU→Prop| .x0 h i j=>Loops E 7 (an Tryz.f7 0) (cH q0 a b c d e v5 v6 v7 v16 f g) (.exit 0) (mj q0 h i j)
noncomputable def c9 (b:List GSession)(c:List GPlan)(a:List GRun)(d e:Int)(v16:List GRun)(g:Int):Nat→Int→Int→Bool→Int→Option yU
 | 0,_,_,_,_=>none
 |n+1,v5,v6,v7,f=>match v7 with
  |true=>cond (decide (f<g))
   ((ak v16 f).bind fun h=>(ak a v5).bind fun g1=>cond (decide (h.f1.f0≥g1.f1.f0))
    (c9 b c a d e v16 g n v5 v6 true (inc f))
    (if ab.sm (GBoard.mk b c a d e)then if a6 (GBoard.mk b c a d e).f1=true then if bP (GBoard.mk b c a d e)=true then if 0≤f∧f<((GBoard.mk b c a d e).f2.length:Int)then cond ((de (GBoard.mk b c a d e) f).2)
     (c9 b c a d e v16 g n f ((de (GBoard.mk b c a d e) f).1) true (inc f))
     (c9 b c a d e v16 g n v5 v6 true (inc f))else none else none else none else none))
   (some (.x0 v5 v6 v7))
  |false=>cond (decide (f<g))
   ((ak v16 f).bind fun h=>if ab.sm (GBoard.mk b c a d e)then if a6 (GBoard.mk b c a d e).f1=true then if bP (GBoard.mk b c a d e)=true then if 0≤f∧f<((GBoard.mk b c a d e).f2.length:Int)then cond ((de (GBoard.mk b c a d e) f).2)
    (c9 b c a d e v16 g n f ((de (GBoard.mk b c a d e) f).1) true (inc f))
    (c9 b c a d e v16 g n v5 v6 false (inc f))else none else none else none else none)
   (some (.x0 v5 v6 v7))
theorem HG {q0:Kd}(a:List GSession)(b:List GPlan)(c:List GRun)(d e:Int)(v16:List GRun)(g:Int)(n:Nat):∀(v5 v6:Int)(v7:Bool)(f:Int),Ans (c9 a b c d e v16 g n v5 v6 v7 f) (HH (q0:=q0) a b c d e v5 v6 v7 v16 g f):=by
 induction n with
 |zero=>intros;exact Ans.none
 |succ n q =>
  intro v5 v6 v7 f;unfold c9;cases v7 with
  |true =>
   apply VC<;>intro j
   ·apply VD;intro l m;apply VD;intro g1 o;apply VC<;>intro p
    ·have r:iG (cH q0 a b c d e v5 v6 true v16 g f) .normal (cH q0 a b c d e v5 v6 true v16 g (inc f)):=RP [.b true,.row ((VM q0) l),.row ((VM q0) g1),.b true] (AC j<|AR (VM q0) m<|AR (VM q0) o<|AC p<|AN);exact(q v5 v6 true (inc f)).mono fun y i=>by cases y<;>exact VA r i
    ·apply VE;intro s;apply VE;intro t;apply VE;intro u;apply VE;intro v;apply VC<;>intro w
     ·have r:iG (cH q0 a b c d e v5 v6 true v16 g f) .normal (cH q0 a b c d e f ((de (GBoard.mk a b c d e) f).1) true v16 g (inc f)):=RP [.b true,.row ((VM q0) l),.row ((VM q0) g1),.b false,.ret [VX ((de (GBoard.mk a b c d e) f).1),VY true]] (AC j<|AR (VM q0) m<|AR (VM q0) o<|AC p<|AV (ψ:=fun k=>E.C k 18 [.agg (VI .far q0 (GBoard.mk a b c d e)),V2 f]=some [VX ((de (GBoard.mk a b c d e) f).1),VY true]) (VF (tz (GBoard.mk a b c d e) f s t u v) (by rw[w]))<|AN);exact(q f ((de (GBoard.mk a b c d e) f).1) true (inc f)).mono fun y i=>by cases y<;>exact VA r i
     ·have r:iG (cH q0 a b c d e v5 v6 true v16 g f) .normal (cH q0 a b c d e v5 v6 true v16 g (inc f)):=RP [.b true,.row ((VM q0) l),.row ((VM q0) g1),.b false,.ret [VX ((de (GBoard.mk a b c d e) f).1),VY false]] (AC j<|AR (VM q0) m<|AR (VM q0) o<|AC p<|AV (ψ:=fun k=>E.C k 18 [.agg (VI .far q0 (GBoard.mk a b c d e)),V2 f]=some [VX ((de (GBoard.mk a b c d e) f).1),VY false]) (VF (tz (GBoard.mk a b c d e) f s t u v) (by rw[w]))<|AN);exact(q v5 v6 true (inc f)).mono fun y i=>by cases y<;>exact VA r i
   ·exact Vz (VB (show iG (cH q0 a b c d e v5 v6 true v16 g f) (.exit 0) (mj q0 v5 v6 true)from RP [.b false] (AC j<|AN)) (by intro h;cases h))
  |false =>
   apply VC<;>intro j
   ·apply VD;intro l m;apply VE;intro o;apply VE;intro p;apply VE;intro s;apply VE;intro t;apply VC<;>intro u
    ·have r:iG (cH q0 a b c d e v5 v6 false v16 g f) .normal (cH q0 a b c d e f ((de (GBoard.mk a b c d e) f).1) true v16 g (inc f)):=RP [.b true,.row ((VM q0) l),.ret [VX ((de (GBoard.mk a b c d e) f).1),VY true]] (AC j<|AR (VM q0) m<|AV (ψ:=fun k=>E.C k 18 [.agg (VI .far q0 (GBoard.mk a b c d e)),V2 f]=some [VX ((de (GBoard.mk a b c d e) f).1),VY true]) (VF (tz (GBoard.mk a b c d e) f o p s t) (by rw[u]))<|AN);exact(q f ((de (GBoard.mk a b c d e) f).1) true (inc f)).mono fun y i=>by cases y<;>exact VA r i
    ·have r:iG (cH q0 a b c d e v5 v6 false v16 g f) .normal (cH q0 a b c d e v5 v6 false v16 g (inc f)):=RP [.b true,.row ((VM q0) l),.ret [VX ((de (GBoard.mk a b c d e) f).1),VY false]] (AC j<|AR (VM q0) m<|AV (ψ:=fun k=>E.C k 18 [.agg (VI .far q0 (GBoard.mk a b c d e)),V2 f]=some [VX ((de (GBoard.mk a b c d e) f).1),VY false]) (VF (tz (GBoard.mk a b c d e) f o p s t) (by rw[u]))<|AN);exact(q v5 v6 false (inc f)).mono fun y i=>by cases y<;>exact VA r i
   ·exact Vz (VB (show iG (cH q0 a b c d e v5 v6 false v16 g f) (.exit 0) (mj q0 v5 v6 false)from RP [.b false] (AC j<|AN)) (by intro h;cases h))
noncomputable def p9 (a:GBoard):Option (Int×Int×Bool):=
  if ab.sm a then cond (jj a)
   ((c9 a.f0 a.f1 a.f2 a.f3 a.f4 a.f2 (a.f2.length:Int) 9223372036854775808 (-1:Int) (-1:Int) false 0).bind fun y=>match y with
    | .x0 b c d=>(some (b,c,d)))
   (some ((-1:Int),(-1:Int),false))else none
theorem JW {q0:Kd}(x0:GBoard):Ans (p9 x0) (fun r=>Does E 7 [.agg (VI .far q0 x0)] [VX r.1,VX r.2.1,VY r.2.2]):=by
 unfold p9;apply VE;intro e;apply VC<;>intro f
 ·apply VD;intro y d;replace d:=HG (q0:=q0) x0.f0 x0.f1 x0.f2 x0.f3 x0.f4 x0.f2 (x0.f2.length:Int) 9223372036854775808 (-1:Int) (-1:Int) false 0 y d;cases y with
  |x0 a b c =>have g:=d;exact Vz (DP Tryz.f7 [rT,V5 (x0.f2.length:Int),.lp (.exit 0) (mj q0 a b c)] (AV (ψ:=fun k=>E.C k 17 [.agg (VI .far q0 x0)]=some [VY true]) (VF (BI x0 e) (by rw[f]))<|ALn x0.f2 (VM q0)<|AL g<|AN))
 ·exact Vz (DP Tryz.f7 [rF] (AV (ψ:=fun k=>E.C k 17 [.agg (VI .far q0 x0)]=some [VY false]) (VF (BI x0 e) (by rw[f]))<|AN))
noncomputable def az (b:GBoard):Int×Int×Bool:=cond (jj b) (et b) (-1, -1,false)
theorem BS {b:GBoard}(h:jj b=true):a6 b.f1=true∧bP b=true:=by unfold jj at h;simp only[Ww]at h;exact⟨h.2.1,h.2.2.1⟩
theorem KD (b:GBoard)(hb:ab.sm b)(i:a6 b.f1=true)(j:bP b=true):∀(m k n:Nat)(u t:Int),k+m=b.f2.length→m<n → -1≤u∧u<(b.f2.length:Int) →
  c9 b.f0 b.f1 b.f2 b.f3 b.f4 b.f2 (b.f2.length:Int) n u t (decide (u≥0)) (k:Int)=some (.x0 (ew b (b.f2.drop k) k u t).1 (ew b (b.f2.drop k) k u t).2 (decide ((ew b (b.f2.drop k) k u t).1≥0)))
 |m,k,0,u,t,_,o,_=>by omega
 | 0,k,n+1,u,t,w,o,h=>by have c:b.f2.drop k=[]:=WV (by omega);have hc:decide ((k:Int)<(b.f2.length:Int))=false:=Wj (by omega);rw[c];unfold c9 ew;rw[hc];cases decide (u≥0)<;>rfl
 |m+1,k,n+1,u,t,w,o,h=>by
  have f:k<b.f2.length:=by omega
  have A:=hb.2.2.1;have c:b.f2.drop k=b.f2[k]::b.f2.drop (k+1):=Xk f;have hc:decide ((k:Int)<(b.f2.length:Int))=true:=Wi (by omega);have p:ak b.f2 (k:Int)=some b.f2[k]:=by rw[cp];exact Wg f
  have e:inc (k:Int)=((k+1:Nat):Int):=by rw[mN _ (by omega) (by omega)];omega
  have r:GBoard.mk b.f0 b.f1 b.f2 b.f3 b.f4=b:=rfl;have g:0≤(k:Int)∧(k:Int)<(b.f2.length:Int):=by omega
  have s:=fun u t h=>KD b hb i j m (k+1) n u t (by omega) (by omega) h
  have d:=s (k:Int) (de b (k:Int)).1 (by omega);rw[show decide ((k:Int)≥0)=true from Wi (by omega)]at d;have a:=s u t h;rw[c];unfold c9 ew;by_cases q:u≥0
  ·obtain⟨y,v,_⟩:=cA (l:=b.f2) (k:=u) (by omega);have x:sB b u b.f2[k]=decide (y.f1.f0≤b.f2[k].f1.f0):=by unfold sB;rw[v]
   have z:decide (b.f2[k].f1.f0≥y.f1.f0)=decide (y.f1.f0≤b.f2[k].f1.f0):=rfl;rw[Wi q]at a ⊢;simp only[hc,p,v,e,x,z,r,V9,Wn,Wa hb,Wa i,Wa j,Wa g,d,a];cases decide (y.f1.f0≤b.f2[k].f1.f0)<;>cases(de b (k:Int)).2<;>rfl
  ·rw[Wj q]at a ⊢;simp only[hc,p,e,r,V9,Wn,Wa hb,Wa i,Wa j,Wa g,d,a];cases(de b (k:Int)).2<;>rfl
theorem Pz (b:GBoard)(hb:ab.sm b):p9 b=some (az b):=by
 unfold p9 az;rw[Wa hb];cases q:jj b with
 |false=>rfl
 |true =>obtain⟨a,c⟩:=BS q;have h:=KD b hb a c b.f2.length 0 9223372036854775808 (-1) (-1) (by omega) (by have:=hb.2.2.1;omega) (by omega);rw[WK]at h;rw[Wn,Wn,show c9 b.f0 b.f1 b.f2 b.f3 b.f4 b.f2 (b.f2.length:Int) 9223372036854775808 (-1) (-1) false 0=_ from h];rfl
theorem PA (b:GBoard)(hb:ab.sm b):qI b=some (az b):=by
 unfold qI az;rw[Wa hb];cases q:jj b with
 |false=>rfl
 |true =>obtain⟨a,c⟩:=BS q;rw[Wa a,Wa c];rfl
theorem my {q0:Kd}(a:GBoard)(h:ab.sm a):Does E 5 [.agg (VI .far q0 a)] [VX ((az a).1),VX ((az a).2.1),VY ((az a).2.2)]:=by exact K5 a _ (PA a h)
theorem mw {q0:Kd}(a:GBoard)(h:ab.sm a):Does E 7 [.agg (VI .far q0 a)] [VX ((az a).1),VX ((az a).2.1),VY ((az a).2.2)]:=by exact JW a _ (Pz a h)
end
end Go.Proofs.YtjikhkndmohepaaGreatDoor.Am
