/- What is blocked; runs that go on. -/
import Derived.Test.YtkgecjmfkcohkaaGreatDoorRight
namespace Go.Proofs.YtkgecjmfkcohkaaGreatDoor.Am
open Go
set_option linter.unusedVariables false
set_option linter.unusedSimpArgs false
section
open Go.Proofs Classical
set_option maxRecDepth 100000
theorem Bx {ts:List GTask}(n:dg ts):∀(k:Nat)(o:List Int),o.Nodup→(∀x∈o,0≤x∧x<(ts.length:Int))→(jf ts k o).Nodup∧∀x∈jf ts k o,0≤x∧x<(ts.length:Int)
 | 0,o,c,d=>⟨c,d⟩
 |k+1,o,c,d=>by
  unfold jf;cases q:fb o ts ts 0 with
  |none=>exact⟨c,d⟩
  |some i =>
   obtain⟨t,j,r,f,h,s⟩:=pa q;have l:i=j:=by omega
   subst l;rw[n.2 i t f]at h;have hi:i<ts.length:=by
    rcases Od i ts.length with g|g
    ·exact g
    ·rw[Ob g]at f;cases f
   have m:(i:Int)∉o:=fun q=>by rw[xY.2 q]at h;cases h
   refine Bx n k _ ?_ fun x hx => ?_
   ·rw[List.nodup_append];exact⟨c,by simp,fun a p b hb e=>by rw[Oc]at hb;subst hb;subst e;exact m p⟩
   ·rcases OD.1 hx with hx|hx
    ·exact d x hx
    ·rw[Oc]at hx;subst hx;omega
theorem Bw {ts:List GTask}(a:dg ts):(dA ts).Nodup∧∀x∈dA ts,0≤x∧x<(ts.length:Int):=Bx a _ _ (by simp) (fun x b=>by cases b)
theorem sU (h:([]:List GState).length*32≤140737488355328∧([]:List GState).length≤4611686018427387904):Does E 46 [.one (.s .far () 4 (([]:List GState).map GState.t))] [(false,[.s .own () 4 (([]:List GState).map GState.t)])]:=
 NM (fn:=Tryz.f46) [.b true,.rows (([]:List GState).map GState.t)] [fun _=>(([]:List GState).map GState.t).length=0,fun _=>([(false,[.s .own () 4 ([]:List (List (T Unit)))])]:URes)=[(false,[.s .own () 4 ([]:List (List (T Unit)))])],fun _=>(([]:List GState).map GState.t).all (fun r=>r.all T.flat)=true∧(([]:List (List (T Unit))).length+(([]:List GState).map GState.t).length)*32≤140737488355328∧([]:List (List (T Unit))).length+(([]:List GState).map GState.t).length≤4611686018427387904,fun _=>([]:List (List (T Unit)))++(([]:List GState).map GState.t)=(([]:List GState).map GState.t)] rfl (fun _=>rfl) (fun k=>by kernel_rfl) ⟨Ev.c rfl,Ev.c rfl,Ev.c (GQ (fun x=>rfl) h),Ev.c rfl,trivial⟩
theorem sV (y:GState)(l:List GState)(h:(y::l).length*32≤140737488355328∧(y::l).length≤4611686018427387904):Does E 46 [.one (.s .far () 4 ((y::l).map GState.t))] [(false,[.s .own () 4 ((y::l).map GState.t)])]:=
 NM (fn:=Tryz.f46) [.b false,.rows ((y::l).map GState.t)] [fun _=>((y::l).map GState.t).length≠0,fun _=>((y::l).map GState.t).all (fun r=>r.all T.flat)=true∧(([]:List (List (T Unit))).length+((y::l).map GState.t).length)*32≤140737488355328∧([]:List (List (T Unit))).length+((y::l).map GState.t).length≤4611686018427387904,fun _=>([]:List (List (T Unit)))++((y::l).map GState.t)=((y::l).map GState.t)] rfl (fun _=>rfl) (fun k=>by kernel_rfl) ⟨Ev.c (by simp),Ev.c (GQ (fun x=>rfl) h),Ev.c rfl,trivial⟩
noncomputable def jM (x0:List GState):Option (List GState):=if x0.length*32≤140737488355328∧x0.length≤4611686018427387904 then some x0 else none
theorem uf (x0:List GState):Ans (jM x0) (fun r=>Does E 46 [.one (.s .far () 4 (x0.map GState.t))] [(false,[.s .own () 4 (r.map GState.t)])]):=by
 unfold jM;refine NS (fun h=>NN ?_);cases x0 with
 |nil=>exact sU h
 |cons y l=>exact sV y l h
theorem tb (x0:List GState)(h:x0.length≤1050000):Does E 46 [.one (.s .far () 4 (x0.map GState.t))] [(false,[.s .own () 4 ((id x0).map GState.t)])]:=by exact uf x0 _ (by unfold jM;rw[N5 (by omega)];rfl)
noncomputable def rV (x0:GRun):Option (GRun):=if(([]:List GState).length+x0.f3.length)*32≤140737488355328∧([]:List GState).length+x0.f3.length≤4611686018427387904 then some ((GRun.mk x0.f0 x0.f1 x0.f2 (([]:List GState)++x0.f3)))else none
theorem Gy (x0:GRun):Ans (rV x0) (fun r=>Does E 19 [.agg (GRun.t .far x0)] [(true,GRun.t .own r)]):=by unfold rV;refine NS (fun a => ?_);exact NN (DP Tryz.f19 [.rows ((([]:List GState)++x0.f3).map GState.t)] (AC (p:=(x0.f3.map GState.t).all (fun r=>r.all T.flat)=true∧((([]:List GState).map GState.t).length+(x0.f3.map GState.t).length)*32≤140737488355328∧(([]:List GState).map GState.t).length+(x0.f3.map GState.t).length≤4611686018427387904) (by exact CP (fun x=>rfl) a)<|AC (p:=(([]:List GState).map GState.t)++(x0.f3.map GState.t)=(([]:List GState)++x0.f3).map GState.t) (by exact C9)<|AN))
theorem gE (x0:GRun)(h:ae.sm x0):Does E 19 [.agg (GRun.t .far x0)] [(true,GRun.t .own (id x0))]:=by have:=h.2.2.1;exact Gy x0 _ (by unfold rV;(first|rw[N5 (by omega)]|rw[N5 (by simp;omega)]);rfl)
noncomputable def rD (x0:GRun):Option (GRun):=if x0.f3.length≤1050000 then some ((GRun.mk x0.f0 x0.f1 x0.f2 (id x0.f3)))else none
theorem FX (x0:GRun):Ans (rD x0) (fun r=>Does E 28 [.agg (GRun.t .far x0)] [(true,GRun.t .own r)]):=by unfold rD;refine NS (fun a => ?_);exact NN (DP Tryz.f28 [.ret [(false,[.s .own () 4 ((id x0.f3).map GState.t)])]] (AD (tb x0.f3 a)<|AN))
theorem Fn (x0:GRun)(h:ae.sm x0):Does E 28 [.agg (GRun.t .far x0)] [(true,GRun.t .own (id x0))]:=by have:=h.2.2.1;exact FX x0 _ (by unfold rD;(first|rw[N5 (by omega)]|rw[N5 (by simp;omega)]);rfl)
inductive sS where|x0 (v5_4:List GState)
def eP (q0:Kd)(v2_0 v2_1:ByteArray)(v2_2 v2_3:Int)(v2_4:Bool)(a:List GTask)(b:ByteArray)(c d e:Int)(f:List GState)(g:ByteArray)(h i j:Int)(v5_4:List GState)(v6:List Int)(v7:Int):US:=stL 74 [(2,.box () [tS v2_0,tS v2_1,tI v2_2,tI v2_3,tB v2_4,.s .far () 5 (a.map (GTask.t q0))]),(4,.box () [tS b,tI c,tI d,tI e,.s .own () 4 (f.map GState.t)]),(5,.box () [tS g,tI h,tI i,tI j,.s .own () 4 (v5_4.map GState.t)]),(6,.one (.s .own () 1 (v6.map etI))),(7,NZ v7)]
def mv (q0:Kd)(b:ByteArray)(c d e:Int)(f:List GState)(g:ByteArray)(h i j:Int)(a:List GState):US:=stL 74 [(4,.box () [tS b,tI c,tI d,tI e,.s .own () 4 (f.map GState.t)]),(5,.box () [tS g,tI h,tI i,tI j,.s .own () 4 (a.map GState.t)])]
abbrev lk:US→Exit→US→Prop:=Round E 20 (aw Tryz.f20 0)
def Az {q0:Kd}(v2_0 v2_1:ByteArray)(v2_2 v2_3:Int)(v2_4:Bool)(k:List GTask)(a:ByteArray)(b c d:Int)(e:List GState)(f:ByteArray)(g h i:Int)(v5_4:List GState)(v6:List Int)(v7:Int):sS→Prop| .x0 j=>Loops E 20 (aw Tryz.f20 0) (eP q0 v2_0 v2_1 v2_2 v2_3 v2_4 k a b c d e f g h i v5_4 v6 v7) (.exit 0) (mv q0 a b c d e f g h i j)
noncomputable def dM (v2_0 v2_1:ByteArray)(v2_2 v2_3:Int)(a:List GTask)(b:ByteArray)(c d e:Int):List Int→Nat→Bool→(List GState)→Option sS|[],i,v2_4,v5_4=>some (.x0 v5_4)|hd::rest,i,v2_4,v5_4=>if ae.sm (GDag.mk v2_0 v2_1 v2_2 v2_3 v2_4 a)then if aR (GDag.mk v2_0 v2_1 v2_2 v2_3 v2_4 a)=true then if(GRun.mk b (GSpan.mk c d) e v5_4).f3.length=(GDag.mk v2_0 v2_1 v2_2 v2_3 v2_4 a).f5.length then if 0≤hd∧hd<((GDag.mk v2_0 v2_1 v2_2 v2_3 v2_4 a).f5.length:Int)then cond ((aA (GDag.mk v2_0 v2_1 v2_2 v2_3 v2_4 a) (GRun.mk b (GSpan.mk c d) e v5_4) hd).2) ((ap v5_4 hd).bind fun g1=>cond (g1.f0==(0:Int)) (dM v2_0 v2_1 v2_2 v2_3 a b c d e rest (i+1) v2_4 (v5_4.set hd.toNat (GState.mk 4 g1.f1 g1.f2 0))) (dM v2_0 v2_1 v2_2 v2_3 a b c d e rest (i+1) v2_4 v5_4)) (dM v2_0 v2_1 v2_2 v2_3 a b c d e rest (i+1) v2_4 v5_4)else none else none else none else none
theorem Ay {q0:Kd}(v2_0 v2_1:ByteArray)(v2_2 v2_3:Int)(e:List GTask)(f:ByteArray)(g j l:Int)(m:List GState)(a:ByteArray)(b c d:Int)(v6:List Int)(rest:List Int):∀(i:Nat)(v2_4:Bool)(v5_4:List GState),(v6).drop i=rest→v6.length≤9223372036854775807→Ans (dM v2_0 v2_1 v2_2 v2_3 e a b c d rest i v2_4 v5_4) (Az (q0:=q0) v2_0 v2_1 v2_2 v2_3 v2_4 e f g j l m a b c d v5_4 v6 (i:Int)):=by
 induction rest with
 |nil =>intro i v2_4 v5_4 q s;have hb:=bw q;unfold dM;exact NN (NP (show lk (eP q0 v2_0 v2_1 v2_2 v2_3 v2_4 e f g j l m a b c d v5_4 v6 (i:Int)) (.exit 0) (mv q0 f g j l m a b c d v5_4)from RP [N2 (v6.length:Int),.b false] (ALn v6 etI<|AC hb<|AN)) (by intro h;cases h))
 |cons hd rest w =>
  intro i v2_4 v5_4 q s;have hb:=a8 q;have x:=ba q s;have n:=aG q;have o:=bc q;unfold dM;refine NS (fun z => ?_);refine NS (fun A => ?_);refine NS (fun B => ?_);refine NS (fun D => ?_);apply NQ<;>intro F
  ·refine NR (fun g1 u => ?_);apply NQ<;>intro G
   ·exact(w (i+1) v2_4 (v5_4.set hd.toNat (GState.mk 4 g1.f1 g1.f2 0)) n s).mono fun y v=>by have r:lk (eP q0 v2_0 v2_1 v2_2 v2_3 v2_4 e f g j l m a b c d v5_4 v6 (i:Int)) .normal (eP q0 v2_0 v2_1 v2_2 v2_3 v2_4 e f g j l m a b c d (v5_4.set hd.toNat (GState.mk 4 g1.f1 g1.f2 0)) v6 (inc (i:Int))):=RP [N2 (v6.length:Int),.b true,.row (etI hd),.ret [NX ((aA (GDag.mk v2_0 v2_1 v2_2 v2_3 v2_4 e) (GRun.mk a (GSpan.mk b c) d v5_4) hd).1),NX true],.row (etI hd),.row (GState.t g1),.b true,.row (etI hd),.row (GState.t g1),.rows ((v5_4.set hd.toNat (GState.mk 4 g1.f1 g1.f2 g1.f3)).map GState.t),.row (etI hd),.row (GState.t (GState.mk 4 g1.f1 g1.f2 g1.f3)),.rows ((v5_4.set hd.toNat (GState.mk 4 g1.f1 g1.f2 0)).map GState.t)] (ALn v6 etI<|AC hb<|AG etI o<|AV (ψ:=fun k=>E.C k 40 [.agg (GDag.t .far q0 (GDag.mk v2_0 v2_1 v2_2 v2_3 v2_4 e)),.agg (GRun.t .far (GRun.mk a (GSpan.mk b c) d v5_4)),NZ hd]=some [NX ((aA (GDag.mk v2_0 v2_1 v2_2 v2_3 v2_4 e) (GRun.mk a (GSpan.mk b c) d v5_4) hd).1),NX true]) (NT (bD (GDag.mk v2_0 v2_1 v2_2 v2_3 v2_4 e) (GRun.mk a (GSpan.mk b c) d v5_4) hd z A B D) (by rw[F]))<|AG etI o<|AG GState.t u<|AC G<|AG etI o<|AG GState.t u<|AC (p:=(v5_4.map GState.t).set (0+hd.toNat) (an (GState.t g1) 0 [tI 4])=(v5_4.set hd.toNat (GState.mk 4 g1.f1 g1.f2 g1.f3)).map GState.t) (cB (by rfl))<|AG etI o<|AC (p:=0≤hd∧hd<(((v5_4.set hd.toNat (GState.mk 4 g1.f1 g1.f2 g1.f3)).map GState.t).length:Int)) (km (bg u))<|AC (p:=((v5_4.set hd.toNat (GState.mk 4 g1.f1 g1.f2 g1.f3)).map GState.t)[0+hd.toNat]?=some (GState.t (GState.mk 4 g1.f1 g1.f2 g1.f3))) (bR (bg u))<|AC (p:=((v5_4.set hd.toNat (GState.mk 4 g1.f1 g1.f2 g1.f3)).map GState.t).set (0+hd.toNat) (an (GState.t (GState.mk 4 g1.f1 g1.f2 g1.f3)) 3 [tI 0])=(v5_4.set hd.toNat (GState.mk 4 g1.f1 g1.f2 0)).map GState.t) (d8 (by rfl))<|AN);rw[x]at r;cases y<;>exact NO r v
   ·exact(w (i+1) v2_4 v5_4 n s).mono fun y v=>by have r:lk (eP q0 v2_0 v2_1 v2_2 v2_3 v2_4 e f g j l m a b c d v5_4 v6 (i:Int)) .normal (eP q0 v2_0 v2_1 v2_2 v2_3 v2_4 e f g j l m a b c d v5_4 v6 (inc (i:Int))):=RP [N2 (v6.length:Int),.b true,.row (etI hd),.ret [NX ((aA (GDag.mk v2_0 v2_1 v2_2 v2_3 v2_4 e) (GRun.mk a (GSpan.mk b c) d v5_4) hd).1),NX true],.row (etI hd),.row (GState.t g1),.b false] (ALn v6 etI<|AC hb<|AG etI o<|AV (ψ:=fun k=>E.C k 40 [.agg (GDag.t .far q0 (GDag.mk v2_0 v2_1 v2_2 v2_3 v2_4 e)),.agg (GRun.t .far (GRun.mk a (GSpan.mk b c) d v5_4)),NZ hd]=some [NX ((aA (GDag.mk v2_0 v2_1 v2_2 v2_3 v2_4 e) (GRun.mk a (GSpan.mk b c) d v5_4) hd).1),NX true]) (NT (bD (GDag.mk v2_0 v2_1 v2_2 v2_3 v2_4 e) (GRun.mk a (GSpan.mk b c) d v5_4) hd z A B D) (by rw[F]))<|AG etI o<|AG GState.t u<|AC G<|AN);rw[x]at r;cases y<;>exact NO r v
  ·exact(w (i+1) v2_4 v5_4 n s).mono fun y v=>by have r:lk (eP q0 v2_0 v2_1 v2_2 v2_3 v2_4 e f g j l m a b c d v5_4 v6 (i:Int)) .normal (eP q0 v2_0 v2_1 v2_2 v2_3 v2_4 e f g j l m a b c d v5_4 v6 (inc (i:Int))):=RP [N2 (v6.length:Int),.b true,.row (etI hd),.ret [NX ((aA (GDag.mk v2_0 v2_1 v2_2 v2_3 v2_4 e) (GRun.mk a (GSpan.mk b c) d v5_4) hd).1),NX false]] (ALn v6 etI<|AC hb<|AG etI o<|AV (ψ:=fun k=>E.C k 40 [.agg (GDag.t .far q0 (GDag.mk v2_0 v2_1 v2_2 v2_3 v2_4 e)),.agg (GRun.t .far (GRun.mk a (GSpan.mk b c) d v5_4)),NZ hd]=some [NX ((aA (GDag.mk v2_0 v2_1 v2_2 v2_3 v2_4 e) (GRun.mk a (GSpan.mk b c) d v5_4) hd).1),NX false]) (NT (bD (GDag.mk v2_0 v2_1 v2_2 v2_3 v2_4 e) (GRun.mk a (GSpan.mk b c) d v5_4) hd z A B D) (by rw[F]))<|AN);rw[x]at r;cases y<;>exact NO r v
noncomputable def mc (x0:GDag)(a:GRun):Option (GRun):=
  if ae.sm a then if ae.sm x0 then cond (aR x0)
   (cond ((a.f3.length:Int) != (x0.f5.length:Int))
    (some ((id a)))
    (if ae.sm x0.f5 then if dg x0.f5 then if(dA x0.f5).length≤9223372036854775807 then(dM x0.f0 x0.f1 x0.f2 x0.f3 x0.f5 ((id a).f0) (((id a).f1).f0) (((id a).f1).f1) ((id a).f2) (dA x0.f5) 0 x0.f4 ((id a).f3)).bind fun y=>match y with
     | .x0 b=>(some ((GRun.mk ((id a).f0) ((id a).f1) ((id a).f2) b)))else none else none else none))
   (some ((id a)))else none else none
theorem Cj {q0:Kd}(x0:GDag)(a:GRun):Ans (mc x0 a) (fun r=>Does E 20 [.agg (GDag.t .far q0 x0),.agg (GRun.t .far a)] [(true,GRun.t .own r)]):=by
 unfold mc;refine NS (fun c => ?_);refine NS (fun d => ?_);apply NQ<;>intro e
 ·apply NQ<;>intro h
  ·exact NN (DP Tryz.f20 [.ret [(true,GRun.t .own (id a))],rT,N2 (a.f3.length:Int),N2 (x0.f5.length:Int),.b true] (AD (gE a c)<|AV (ψ:=fun k=>E.C k 37 [.agg (GDag.t .far q0 x0)]=some [NX true]) (NT (oH x0 d) (by rw[e]))<|ALn a.f3 GState.t<|ALn x0.f5 (GTask.t q0)<|AC h<|AN))
  ·refine NS (fun i => ?_);refine NS (fun j => ?_);refine NS (fun f => ?_);refine NR (fun y g => ?_);replace g:=Ay (q0:=q0) x0.f0 x0.f1 x0.f2 x0.f3 x0.f5 ByteArray.empty 0 0 0 ([]) ((id a).f0) (((id a).f1).f0) (((id a).f1).f1) ((id a).f2) (dA x0.f5) (dA x0.f5) 0 x0.f4 ((id a).f3) rfl f y g;cases y with
   |x0 b =>have l:=g;exact NN (DP Tryz.f20 [.ret [(true,GRun.t .own (id a))],rT,N2 (a.f3.length:Int),N2 (x0.f5.length:Int),.b false,.ret [(false,[.s .own () 1 ((dA x0.f5).map etI)])],.lp (.exit 0) (mv q0 ByteArray.empty 0 0 0 ([]) ((id a).f0) (((id a).f1).f0) (((id a).f1).f1) ((id a).f2) b)] (AD (gE a c)<|AV (ψ:=fun k=>E.C k 37 [.agg (GDag.t .far q0 x0)]=some [NX true]) (NT (oH x0 d) (by rw[e]))<|ALn a.f3 GState.t<|ALn x0.f5 (GTask.t q0)<|AC h<|AV (ψ:=fun k=>E.C k 39 [.one (.s .far () 5 (x0.f5.map (GTask.t q0)))]=some [(false,[.s .own () 1 ((dA x0.f5).map etI)])]) (u3 x0.f5 i j)<|AL l<|AN))
 ·exact NN (DP Tryz.f20 [.ret [(true,GRun.t .own (id a))],rF] (AD (gE a c)<|AV (ψ:=fun k=>E.C k 37 [.agg (GDag.t .far q0 x0)]=some [NX false]) (NT (oH x0 d) (by rw[e]))<|AN))
inductive oN where|x0 (v0_4:List GState)
def cO (q1:Kd)(a:ByteArray)(b c d:Int)(v0_4:List GState)(e f:ByteArray)(g h:Int)(i:Bool)(j:List GTask)(v9:List Int)(v10 v11:Int):US:=stL 51 [(0,.box () [tS a,tI b,tI c,tI d,.s .own () 4 (v0_4.map GState.t)]),(3,.box () [tS e,tS f,tI g,tI h,tB i,.s .far () 5 (j.map (GTask.t q1))]),(9,.one (.s .own () 1 (v9.map etI))),(10,NZ v10),(11,NZ v11)]
def jB (q1:Kd)(b:ByteArray)(c d e:Int)(a:List GState):US:=stL 51 [(0,.box () [tS b,tI c,tI d,tI e,.s .own () 4 (a.map GState.t)])]
abbrev iG:US→Exit→US→Prop:=Round E 47 (aw Tryz.f47 0)
def vB {q1:Kd}(a:ByteArray)(b c d:Int)(v0_4:List GState)(f g:ByteArray)(h i:Int)(j:Bool)(k:List GTask)(v9:List Int)(v10 v11:Int):oN→Prop| .x0 e=>Loops E 47 (aw Tryz.f47 0) (cO q1 a b c d v0_4 f g h i j k v9 v10 v11) (.exit 0) (jB q1 a b c d e)
noncomputable def cm (g:ByteArray)(h j k:Int)(b c:ByteArray)(d e:Int)(f:List GTask):List Int→Nat→(List GState)→Bool→Option oN|[],i,v0_4,a=>some (.x0 v0_4)|hd::rest,i,v0_4,a=>if ae.sm (GDag.mk b c d e a f)then if aR (GDag.mk b c d e a f)=true then if(GRun.mk g (GSpan.mk h j) k v0_4).f3.length=(GDag.mk b c d e a f).f5.length then if 0≤hd∧hd<((GDag.mk b c d e a f).f5.length:Int)then cond ((bq (GDag.mk b c d e a f) (GRun.mk g (GSpan.mk h j) k v0_4) hd).2) ((ap v0_4 hd).bind fun g1=>cond (g1.f0==(0:Int)) (cm g h j k b c d e f rest (i+1) (v0_4.set hd.toNat (GState.mk 4 g1.f1 g1.f2 0)) a) (cm g h j k b c d e f rest (i+1) v0_4 a)) (cm g h j k b c d e f rest (i+1) v0_4 a)else none else none else none else none
theorem vA {q1:Kd}(b:ByteArray)(c d e:Int)(f g:ByteArray)(j l:Int)(m:List GTask)(v9:List Int)(rest:List Int):∀(i:Nat)(v0_4:List GState)(a:Bool),(v9).drop i=rest→v9.length≤9223372036854775807→Ans (cm b c d e f g j l m rest i v0_4 a) (vB (q1:=q1) b c d e v0_4 f g j l a m v9 (v9.length:Int) (i:Int)):=by
 induction rest with
 |nil =>intro i v0_4 a o q;have hb:=bw o;unfold cm;exact NN (NP (show iG (cO q1 b c d e v0_4 f g j l a m v9 (v9.length:Int) (i:Int)) (.exit 0) (jB q1 b c d e v0_4)from RP [.b false] (AC hb<|AN)) (by intro h;cases h))
 |cons hd rest v =>
  intro i v0_4 a o q;have hb:=a8 o;have w:=ba o q;have n:=aG o;have x:=bc o;unfold cm;refine NS (fun z => ?_);refine NS (fun A => ?_);refine NS (fun B => ?_);refine NS (fun D => ?_);apply NQ<;>intro F
  ·refine NR (fun g1 s => ?_);apply NQ<;>intro G
   ·exact(v (i+1) (v0_4.set hd.toNat (GState.mk 4 g1.f1 g1.f2 0)) a n q).mono fun y u=>by have r:iG (cO q1 b c d e v0_4 f g j l a m v9 (v9.length:Int) (i:Int)) .normal (cO q1 b c d e (v0_4.set hd.toNat (GState.mk 4 g1.f1 g1.f2 0)) f g j l a m v9 (v9.length:Int) (inc (i:Int))):=RP [.b true,.row (etI hd),.ret [NX ((bq (GDag.mk f g j l a m) (GRun.mk b (GSpan.mk c d) e v0_4) hd).1),NX true],.row (GState.t g1),.b true,.row (GState.t g1),.rows ((v0_4.set hd.toNat (GState.mk 4 g1.f1 g1.f2 g1.f3)).map GState.t),.row (GState.t (GState.mk 4 g1.f1 g1.f2 g1.f3)),.rows ((v0_4.set hd.toNat (GState.mk 4 g1.f1 g1.f2 0)).map GState.t)] (AC hb<|AG etI x<|AV (ψ:=fun k=>E.C k 70 [.agg (GDag.t .far q1 (GDag.mk f g j l a m)),.agg (GRun.t .far (GRun.mk b (GSpan.mk c d) e v0_4)),NZ hd,.fni 71 []]=some [NX ((bq (GDag.mk f g j l a m) (GRun.mk b (GSpan.mk c d) e v0_4) hd).1),NX true]) (NT (cL (GDag.mk f g j l a m) (GRun.mk b (GSpan.mk c d) e v0_4) hd z A B D) (by rw[F]))<|AG GState.t s<|AC G<|AG GState.t s<|AC (p:=(v0_4.map GState.t).set (0+hd.toNat) (an (GState.t g1) 0 [tI 4])=(v0_4.set hd.toNat (GState.mk 4 g1.f1 g1.f2 g1.f3)).map GState.t) (cB (by rfl))<|AC (p:=0≤hd∧hd<(((v0_4.set hd.toNat (GState.mk 4 g1.f1 g1.f2 g1.f3)).map GState.t).length:Int)) (km (bg s))<|AC (p:=((v0_4.set hd.toNat (GState.mk 4 g1.f1 g1.f2 g1.f3)).map GState.t)[0+hd.toNat]?=some (GState.t (GState.mk 4 g1.f1 g1.f2 g1.f3))) (bR (bg s))<|AC (p:=((v0_4.set hd.toNat (GState.mk 4 g1.f1 g1.f2 g1.f3)).map GState.t).set (0+hd.toNat) (an (GState.t (GState.mk 4 g1.f1 g1.f2 g1.f3)) 3 [tI 0])=(v0_4.set hd.toNat (GState.mk 4 g1.f1 g1.f2 0)).map GState.t) (d8 (by rfl))<|AN);rw[w]at r;cases y<;>exact NO r u
   ·exact(v (i+1) v0_4 a n q).mono fun y u=>by have r:iG (cO q1 b c d e v0_4 f g j l a m v9 (v9.length:Int) (i:Int)) .normal (cO q1 b c d e v0_4 f g j l a m v9 (v9.length:Int) (inc (i:Int))):=RP [.b true,.row (etI hd),.ret [NX ((bq (GDag.mk f g j l a m) (GRun.mk b (GSpan.mk c d) e v0_4) hd).1),NX true],.row (GState.t g1),.b false] (AC hb<|AG etI x<|AV (ψ:=fun k=>E.C k 70 [.agg (GDag.t .far q1 (GDag.mk f g j l a m)),.agg (GRun.t .far (GRun.mk b (GSpan.mk c d) e v0_4)),NZ hd,.fni 71 []]=some [NX ((bq (GDag.mk f g j l a m) (GRun.mk b (GSpan.mk c d) e v0_4) hd).1),NX true]) (NT (cL (GDag.mk f g j l a m) (GRun.mk b (GSpan.mk c d) e v0_4) hd z A B D) (by rw[F]))<|AG GState.t s<|AC G<|AN);rw[w]at r;cases y<;>exact NO r u
  ·exact(v (i+1) v0_4 a n q).mono fun y u=>by have r:iG (cO q1 b c d e v0_4 f g j l a m v9 (v9.length:Int) (i:Int)) .normal (cO q1 b c d e v0_4 f g j l a m v9 (v9.length:Int) (inc (i:Int))):=RP [.b true,.row (etI hd),.ret [NX ((bq (GDag.mk f g j l a m) (GRun.mk b (GSpan.mk c d) e v0_4) hd).1),NX false]] (AC hb<|AG etI x<|AV (ψ:=fun k=>E.C k 70 [.agg (GDag.t .far q1 (GDag.mk f g j l a m)),.agg (GRun.t .far (GRun.mk b (GSpan.mk c d) e v0_4)),NZ hd,.fni 71 []]=some [NX ((bq (GDag.mk f g j l a m) (GRun.mk b (GSpan.mk c d) e v0_4) hd).1),NX false]) (NT (cL (GDag.mk f g j l a m) (GRun.mk b (GSpan.mk c d) e v0_4) hd z A B D) (by rw[F]))<|AN);rw[w]at r;cases y<;>exact NO r u
noncomputable def iZ (x0:GRun)(a:GDag):Option (GRun):=
  if ae.sm a then if dg a.f5 then if(fj a).length≤9223372036854775807 then(cm x0.f0 x0.f1.f0 x0.f1.f1 x0.f2 a.f0 a.f1 a.f2 a.f3 a.f5 (fj a) 0 x0.f3 a.f4).bind fun y=>match y with
   | .x0 b=>(some ((GRun.mk x0.f0 x0.f1 x0.f2 b)))else none else none else none
theorem wP {q1:Kd}(x0:GRun)(a:GDag):Ans (iZ x0 a) (fun r=>Does E 47 [.box () (GRun.t .own x0),.agg (GDag.t .far q1 a)] [(true,GRun.t .own r)]):=by
 unfold iZ;refine NS (fun e => ?_);refine NS (fun f => ?_);refine NS (fun c => ?_);refine NR (fun y d => ?_);replace d:=vA (q1:=q1) x0.f0 x0.f1.f0 x0.f1.f1 x0.f2 a.f0 a.f1 a.f2 a.f3 a.f5 (fj a) (fj a) 0 x0.f3 a.f4 rfl c y d;cases y with
 |x0 b =>have g:=d;exact NN (DP Tryz.f47 [.ret [(false,[.s .own () 1 ((fj a).map etI)])],N2 ((fj a).length:Int),.lp (.exit 0) (jB q1 x0.f0 x0.f1.f0 x0.f1.f1 x0.f2 b)] (AV (ψ:=fun k=>E.C k 67 [.agg (GDag.t .far q1 a)]=some [(false,[.s .own () 1 ((fj a).map etI)])]) (wR a e f)<|ALn (fj a) etI<|AL g<|AN))
noncomputable def nL (d:GDag)(g:GRun)(k:Int)(v:List GState):List GState :=
 cond (bq d (GRun.mk g.f0 (GSpan.mk g.f1.f0 g.f1.f1) g.f2 v) k).2 (match ap v k with|some x=>cond (x.f0==0) (v.set k.toNat ⟨4,x.f1,x.f2,0⟩) v|none=>v) v
noncomputable def mC (d:GDag)(g:GRun):List Int→List GState→List GState|[],v=>v|k::l,v=>mC d g l (nL d g k v)
noncomputable def iQ (r:GRun)(d:GDag):GRun:=⟨r.f0,r.f1,r.f2,mC d r (dA d.f5) r.f3⟩
noncomputable def fk (d:GDag)(r:GRun):GRun:=cond (aR d&&((r.f3.length:Int)==(d.f5.length:Int))) (iQ r d) r
theorem vc (d:GDag)(g:GRun)(k:Int)(v:List GState):(nL d g k v).length=v.length:=by
 unfold nL;cases(bq d (GRun.mk g.f0 (GSpan.mk g.f1.f0 g.f1.f1) g.f2 v) k).2 with
 |false=>rfl
 |true =>
  cases q:ap v k with
  |none=>rfl
  |some x =>show(cond (x.f0==0) (v.set k.toNat ⟨4,x.f1,x.f2,0⟩) v).length=v.length;cases x.f0==0<;>simp
theorem w6 (d:GDag)(g:GRun):∀(l:List Int)(v:List GState),(mC d g l v).length=v.length
 |[],v=>rfl
 |k::l,v=>by unfold mC;rw[w6 d g l,vc]
theorem zS (d:GDag)(g:GRun)(h:ae.sm d)(hd:aR d=true):∀(l:List Int)(i:Nat)(v:List GState),v.length=d.f5.length→(∀x∈l,0≤x∧x<(d.f5.length:Int)) →
  dM d.f0 d.f1 d.f2 d.f3 d.f5 g.f0 g.f1.f0 g.f1.f1 g.f2 l i d.f4 v=some (.x0 (mC d g l v)) ∧
  cm g.f0 g.f1.f0 g.f1.f1 g.f2 d.f0 d.f1 d.f2 d.f3 d.f5 l i v d.f4=some (.x0 (mC d g l v))
 |[],i,v,_,_=>⟨rfl,rfl⟩
 |k::l,i,v,hv,b=>by
  have j:=b k (by simp);have e:GDag.mk d.f0 d.f1 d.f2 d.f3 d.f4 d.f5=d:=rfl;have a:(GRun.mk g.f0 (GSpan.mk g.f1.f0 g.f1.f1) g.f2 v).f3.length=d.f5.length:=hv;have m:aA d (GRun.mk g.f0 (GSpan.mk g.f1.f0 g.f1.f1) g.f2 v) k=((bF d (GRun.mk g.f0 (GSpan.mk g.f1.f0 g.f1.f1) g.f2 v) k).1,(bq d (GRun.mk g.f0 (GSpan.mk g.f1.f0 g.f1.f1) g.f2 v) k).2):=rfl;have c:=zS d g h hd l (i+1) (nL d g k v) (by rw[vc];exact hv) fun y n=>b y (by simp[n])
  obtain⟨x,f,_⟩:=fi (l:=v) (k:=k) (by omega);unfold dM cm mC;simp only[e,N5 h,N5 hd,N5 a,N5 j,m];rw[←c.1];refine⟨?_,?_⟩
  ·unfold nL;cases(bq d (GRun.mk g.f0 (GSpan.mk g.f1.f0 g.f1.f1) g.f2 v) k).2 with
   |false=>rfl
   |true =>simp only[f,N4,Om];cases x.f0==0<;>rfl
  ·rw[←c.2];unfold nL;cases(bq d (GRun.mk g.f0 (GSpan.mk g.f1.f0 g.f1.f1) g.f2 v) k).2 with
   |false=>rfl
   |true =>simp only[f,N4,Om];cases x.f0==0<;>rfl
theorem Hx (r:GRun)(d:GDag)(h:ae.sm d)(hd:aR d=true)(b:r.f3.length=d.f5.length):iZ r d=some (iQ r d):=by obtain⟨f, -, -,a,c⟩:=nN hd;have e:fj d=dA d.f5:=rfl;unfold iZ;rw[N5 h,N5 a,e,c,N5 (by omega),(zS d r h hd (dA d.f5) 0 r.f3 b (Bw a).2).2];rfl
theorem Fu (d:GDag)(r:GRun)(h:ae.sm d)(g:ae.sm r):mc d r=some (fk d r):=by
 unfold mc fk;rw[N5 g,N5 h];cases q:aR d with
 |false=>rfl
 |true =>
  have e:((r.f3.length:Int) != (d.f5.length:Int))= !((r.f3.length:Int)==(d.f5.length:Int)):=rfl;rw[e];cases b:((r.f3.length:Int)==(d.f5.length:Int))with
  |false=>rfl
  |true =>
   have c:r.f3.length=d.f5.length:=by rw[PK]at b;omega
   obtain⟨f, -, -,a,i⟩:=nN q;have hs:ae.sm d.f5:=h.2.2;simp only[id,Pq,Ou,Om,OG,N5 hs,N5 a];rw[N5 (by omega),(zS d r h q (dA d.f5) 0 r.f3 c (Bw a).2).1];rfl
theorem um {q0:Kd}(x0:GDag)(a:GRun)(h:ae.sm x0)(g:ae.sm a):Does E 20 [.agg (GDag.t .far q0 x0),.agg (GRun.t .far a)] [(true,GRun.t .own (fk x0 a))]:=by exact Cj x0 a _ (Fu x0 a h g)
theorem wM {q1:Kd}(x0:GRun)(a:GDag)(h:ae.sm a)(g:ae.sm x0)(hd:aR a=true)(b:x0.f3.length=a.f5.length):Does E 47 [.box () (GRun.t .own x0),.agg (GDag.t .far q1 a)] [(true,GRun.t .own (iQ x0 a))]:=by exact wP x0 a _ (Hx x0 a h hd b)
noncomputable def rR (x0:Int):Option (Int):=cond (x0==(0:Int)) (some (1)) (cond (x0==(1:Int)) (some (2)) (cond (x0==(2:Int)) (some (4)) (some (8))))
theorem Gl (x0:Int):Ans (rR x0) (fun r=>Does E 21 [NZ x0] [NW r]):=by
 unfold rR;apply NQ<;>intro a
 ·exact NN (DP Tryz.f21 [.b true] (AC a<|AN))
 ·apply NQ<;>intro b
  ·exact NN (DP Tryz.f21 [.b false,.b true] (AC a<|AC b<|AN))
  ·apply NQ<;>intro c
   ·exact NN (DP Tryz.f21 [.b false,.b false,.b true] (AC a<|AC b<|AC c<|AN))
   ·exact NN (DP Tryz.f21 [.b false,.b false,.b false] (AC a<|AC b<|AC c<|AN))
def dr (x:Int):Int:=cond (x==0) 1 (cond (x==1) 2 (cond (x==2) 4 8))
theorem wW (x0:Int):Does E 21 [NZ x0] [NW (dr x0)]:=by exact Gl x0 _ (by unfold rR dr;cases x0==0<;>cases x0==1<;>cases x0==2<;>rfl)
noncomputable def rA (x0:Int):Option (Int):=cond (x0==(0:Int)) (some (1)) (cond (x0==(1:Int)) (some (2)) (cond (x0==(2:Int)) (some (4)) (some (8))))
theorem FP (x0:Int):Ans (rA x0) (fun r=>Does E 48 [NZ x0] [NW r]):=by
 unfold rA;apply NQ<;>intro a
 ·exact NN (DP Tryz.f48 [.b true] (AC a<|AN))
 ·apply NQ<;>intro b
  ·exact NN (DP Tryz.f48 [.b false,.b true] (AC a<|AC b<|AN))
  ·apply NQ<;>intro c
   ·exact NN (DP Tryz.f48 [.b false,.b false,.b true] (AC a<|AC b<|AC c<|AN))
   ·exact NN (DP Tryz.f48 [.b false,.b false,.b false] (AC a<|AC b<|AC c<|AN))
theorem Fl (x0:Int):Does E 48 [NZ x0] [NW (dr x0)]:=by exact FP x0 _ (by unfold rA dr;cases x0==0<;>cases x0==1<;>cases x0==2<;>rfl)
noncomputable def vF (x0:Int):Option (Bool):=some (ag x0 0 68374079)
theorem DV (x0:Int):Ans (vF x0) (fun r=>Does E 26 [NZ x0] [NX r]):=by unfold vF;exact NN (DP Tryz.f26 [.ret [NX (ag x0 0 68374079)]] (AD (ay x0 0 (68374079:Int))<|AN))
def mo (x:Int):Bool:=ag x 0 68374079
theorem mQ (x0:Int):Does E 26 [NZ x0] [NX (mo x0)]:=by exact DV x0 _ rfl
noncomputable def k9 (x0:GRun)(b:GDag)(x2:Int)(c:Bool)(x4:Int):Option (GRun):=
  match c with
   |true=>(ap x0.f3 x2).bind fun a=>some ((GRun.mk x0.f0 x0.f1 x0.f2 (x0.f3.set x2.toNat (GState.mk 2 a.f1 0 0))))
   |false=>(ap x0.f3 x2).bind fun a=>(ap b.f5 x2).bind fun g1=>cond (decide ((bE (inc a.f1) (inc g1.f2))>g1.f2))
    (if ae.sm b then if ae.sm (GRun.mk x0.f0 x0.f1 x0.f2 (x0.f3.set x2.toNat (GState.mk 3 (bE (inc a.f1) (inc g1.f2)) 0 0)))then if aR b=true then if(GRun.mk x0.f0 x0.f1 x0.f2 (x0.f3.set x2.toNat (GState.mk 3 (bE (inc a.f1) (inc g1.f2)) 0 0))).f3.length=b.f5.length then some ((iQ (GRun.mk x0.f0 x0.f1 x0.f2 (x0.f3.set x2.toNat (GState.mk 3 (bE (inc a.f1) (inc g1.f2)) 0 0))) b))else none else none else none else none)
    (some ((GRun.mk x0.f0 x0.f1 x0.f2 (x0.f3.set x2.toNat (GState.mk 0 (bE (inc a.f1) (inc g1.f2)) 0 (IntKind.wrap .i64 (x4+(dr (bE (inc a.f1) (inc g1.f2))))))))))
theorem Ae {q1:Kd}(x0:GRun)(c:GDag)(x2:Int)(d:Bool)(x4:Int):Ans (k9 x0 c x2 d x4) (fun r=>Does E 29 [.box () (GRun.t .own x0),.agg (GDag.t .far q1 c),NZ x2,N0 d,NZ x4] [(true,GRun.t .own r)]):=by
 unfold k9;cases d with
 |true =>refine NR (fun a b => ?_);exact NN (DP Tryz.f29 [.row (GState.t a),.rows ((x0.f3.set x2.toNat (GState.mk a.f0 a.f1 0 a.f3)).map GState.t),.row (GState.t (GState.mk a.f0 a.f1 0 a.f3)),.rows ((x0.f3.set x2.toNat (GState.mk a.f0 a.f1 0 0)).map GState.t),.row (GState.t (GState.mk a.f0 a.f1 0 0)),.rows ((x0.f3.set x2.toNat (GState.mk 2 a.f1 0 0)).map GState.t)] (AG GState.t b<|AC (p:=(x0.f3.map GState.t).set (0+x2.toNat) (an (GState.t a) 2 [tI 0])=(x0.f3.set x2.toNat (GState.mk a.f0 a.f1 0 a.f3)).map GState.t) (cB (by rfl))<|AC (p:=((x0.f3.set x2.toNat (GState.mk a.f0 a.f1 0 a.f3)).map GState.t)[0+x2.toNat]?=some (GState.t (GState.mk a.f0 a.f1 0 a.f3))) (bR (bg b))<|AC (p:=((x0.f3.set x2.toNat (GState.mk a.f0 a.f1 0 a.f3)).map GState.t).set (0+x2.toNat) (an (GState.t (GState.mk a.f0 a.f1 0 a.f3)) 3 [tI 0])=(x0.f3.set x2.toNat (GState.mk a.f0 a.f1 0 0)).map GState.t) (d8 (by rfl))<|AC (p:=((x0.f3.set x2.toNat (GState.mk a.f0 a.f1 0 0)).map GState.t)[0+x2.toNat]?=some (GState.t (GState.mk a.f0 a.f1 0 0))) (bR (bg b))<|AC (p:=((x0.f3.set x2.toNat (GState.mk a.f0 a.f1 0 0)).map GState.t).set (0+x2.toNat) (an (GState.t (GState.mk a.f0 a.f1 0 0)) 0 [tI 2])=(x0.f3.set x2.toNat (GState.mk 2 a.f1 0 0)).map GState.t) (d8 (by rfl))<|AN))
 |false =>
  refine NR (fun a b => ?_);refine NR (fun g1 e => ?_);apply NQ<;>intro f
  ·refine NS (fun g => ?_);refine NS (fun h => ?_);refine NS (fun i => ?_);refine NS (fun j => ?_);exact NN (DP Tryz.f29 [.row (GState.t a),.rows ((x0.f3.set x2.toNat (GState.mk a.f0 a.f1 0 a.f3)).map GState.t),.row (GState.t (GState.mk a.f0 a.f1 0 a.f3)),.rows ((x0.f3.set x2.toNat (GState.mk a.f0 a.f1 0 0)).map GState.t),.row ((GTask.t q1) g1),.row (GState.t (GState.mk a.f0 a.f1 0 0)),.no,.no,N2 (bE (inc a.f1) (inc g1.f2)),.row (GState.t (GState.mk a.f0 a.f1 0 0)),.rows ((x0.f3.set x2.toNat (GState.mk a.f0 (bE (inc a.f1) (inc g1.f2)) 0 0)).map GState.t),.row (GState.t (GState.mk a.f0 (bE (inc a.f1) (inc g1.f2)) 0 0)),.b true,.row (GState.t (GState.mk a.f0 (bE (inc a.f1) (inc g1.f2)) 0 0)),.rows ((x0.f3.set x2.toNat (GState.mk 3 (bE (inc a.f1) (inc g1.f2)) 0 0)).map GState.t),.ret [(true,GRun.t .own (iQ (GRun.mk x0.f0 x0.f1 x0.f2 (x0.f3.set x2.toNat (GState.mk 3 (bE (inc a.f1) (inc g1.f2)) 0 0))) c))]] (AG GState.t b<|AC (p:=(x0.f3.map GState.t).set (0+x2.toNat) (an (GState.t a) 2 [tI 0])=(x0.f3.set x2.toNat (GState.mk a.f0 a.f1 0 a.f3)).map GState.t) (cB (by rfl))<|AC (p:=((x0.f3.set x2.toNat (GState.mk a.f0 a.f1 0 a.f3)).map GState.t)[0+x2.toNat]?=some (GState.t (GState.mk a.f0 a.f1 0 a.f3))) (bR (bg b))<|AC (p:=((x0.f3.set x2.toNat (GState.mk a.f0 a.f1 0 a.f3)).map GState.t).set (0+x2.toNat) (an (GState.t (GState.mk a.f0 a.f1 0 a.f3)) 3 [tI 0])=(x0.f3.set x2.toNat (GState.mk a.f0 a.f1 0 0)).map GState.t) (d8 (by rfl))<|AR (GTask.t q1) e<|AC (p:=((x0.f3.set x2.toNat (GState.mk a.f0 a.f1 0 0)).map GState.t)[0+x2.toNat]?=some (GState.t (GState.mk a.f0 a.f1 0 0))) (bR (bg b))<|AC (p:=(if(inc g1.f2)<(inc a.f1)then(inc g1.f2)else(inc a.f1))=bE (inc a.f1) (inc g1.f2)) rfl<|AC (p:=((x0.f3.set x2.toNat (GState.mk a.f0 a.f1 0 0)).map GState.t)[0+x2.toNat]?=some (GState.t (GState.mk a.f0 a.f1 0 0))) (bR (bg b))<|AC (p:=((x0.f3.set x2.toNat (GState.mk a.f0 a.f1 0 0)).map GState.t).set (0+x2.toNat) (an (GState.t (GState.mk a.f0 a.f1 0 0)) 1 [tI (bE (inc a.f1) (inc g1.f2))])=(x0.f3.set x2.toNat (GState.mk a.f0 (bE (inc a.f1) (inc g1.f2)) 0 0)).map GState.t) (d8 (by rfl))<|AC (p:=((x0.f3.set x2.toNat (GState.mk a.f0 (bE (inc a.f1) (inc g1.f2)) 0 0)).map GState.t)[0+x2.toNat]?=some (GState.t (GState.mk a.f0 (bE (inc a.f1) (inc g1.f2)) 0 0))) (bR (bg b))<|AC f<|AC (p:=((x0.f3.set x2.toNat (GState.mk a.f0 (bE (inc a.f1) (inc g1.f2)) 0 0)).map GState.t)[0+x2.toNat]?=some (GState.t (GState.mk a.f0 (bE (inc a.f1) (inc g1.f2)) 0 0))) (bR (bg b))<|AC (p:=((x0.f3.set x2.toNat (GState.mk a.f0 (bE (inc a.f1) (inc g1.f2)) 0 0)).map GState.t).set (0+x2.toNat) (an (GState.t (GState.mk a.f0 (bE (inc a.f1) (inc g1.f2)) 0 0)) 0 [tI 3])=(x0.f3.set x2.toNat (GState.mk 3 (bE (inc a.f1) (inc g1.f2)) 0 0)).map GState.t) (d8 (by rfl))<|AV (ψ:=fun k=>E.C k 47 [.box () (GRun.t .own (GRun.mk x0.f0 x0.f1 x0.f2 (x0.f3.set x2.toNat (GState.mk 3 (bE (inc a.f1) (inc g1.f2)) 0 0)))),.agg (GDag.t .far q1 c)]=some [(true,GRun.t .own (iQ (GRun.mk x0.f0 x0.f1 x0.f2 (x0.f3.set x2.toNat (GState.mk 3 (bE (inc a.f1) (inc g1.f2)) 0 0))) c))]) (wM (GRun.mk x0.f0 x0.f1 x0.f2 (x0.f3.set x2.toNat (GState.mk 3 (bE (inc a.f1) (inc g1.f2)) 0 0))) c g h i j)<|AN))
  ·exact NN (DP Tryz.f29 [.row (GState.t a),.rows ((x0.f3.set x2.toNat (GState.mk a.f0 a.f1 0 a.f3)).map GState.t),.row (GState.t (GState.mk a.f0 a.f1 0 a.f3)),.rows ((x0.f3.set x2.toNat (GState.mk a.f0 a.f1 0 0)).map GState.t),.row ((GTask.t q1) g1),.row (GState.t (GState.mk a.f0 a.f1 0 0)),.no,.no,N2 (bE (inc a.f1) (inc g1.f2)),.row (GState.t (GState.mk a.f0 a.f1 0 0)),.rows ((x0.f3.set x2.toNat (GState.mk a.f0 (bE (inc a.f1) (inc g1.f2)) 0 0)).map GState.t),.row (GState.t (GState.mk a.f0 (bE (inc a.f1) (inc g1.f2)) 0 0)),.b false,.row (GState.t (GState.mk a.f0 (bE (inc a.f1) (inc g1.f2)) 0 0)),.rows ((x0.f3.set x2.toNat (GState.mk 0 (bE (inc a.f1) (inc g1.f2)) 0 0)).map GState.t),.row (GState.t (GState.mk 0 (bE (inc a.f1) (inc g1.f2)) 0 0)),.ret [NW (dr (bE (inc a.f1) (inc g1.f2)))],.row (GState.t (GState.mk 0 (bE (inc a.f1) (inc g1.f2)) 0 0)),.rows ((x0.f3.set x2.toNat (GState.mk 0 (bE (inc a.f1) (inc g1.f2)) 0 (IntKind.wrap .i64 (x4+(dr (bE (inc a.f1) (inc g1.f2))))))).map GState.t)] (AG GState.t b<|AC (p:=(x0.f3.map GState.t).set (0+x2.toNat) (an (GState.t a) 2 [tI 0])=(x0.f3.set x2.toNat (GState.mk a.f0 a.f1 0 a.f3)).map GState.t) (cB (by rfl))<|AC (p:=((x0.f3.set x2.toNat (GState.mk a.f0 a.f1 0 a.f3)).map GState.t)[0+x2.toNat]?=some (GState.t (GState.mk a.f0 a.f1 0 a.f3))) (bR (bg b))<|AC (p:=((x0.f3.set x2.toNat (GState.mk a.f0 a.f1 0 a.f3)).map GState.t).set (0+x2.toNat) (an (GState.t (GState.mk a.f0 a.f1 0 a.f3)) 3 [tI 0])=(x0.f3.set x2.toNat (GState.mk a.f0 a.f1 0 0)).map GState.t) (d8 (by rfl))<|AR (GTask.t q1) e<|AC (p:=((x0.f3.set x2.toNat (GState.mk a.f0 a.f1 0 0)).map GState.t)[0+x2.toNat]?=some (GState.t (GState.mk a.f0 a.f1 0 0))) (bR (bg b))<|AC (p:=(if(inc g1.f2)<(inc a.f1)then(inc g1.f2)else(inc a.f1))=bE (inc a.f1) (inc g1.f2)) rfl<|AC (p:=((x0.f3.set x2.toNat (GState.mk a.f0 a.f1 0 0)).map GState.t)[0+x2.toNat]?=some (GState.t (GState.mk a.f0 a.f1 0 0))) (bR (bg b))<|AC (p:=((x0.f3.set x2.toNat (GState.mk a.f0 a.f1 0 0)).map GState.t).set (0+x2.toNat) (an (GState.t (GState.mk a.f0 a.f1 0 0)) 1 [tI (bE (inc a.f1) (inc g1.f2))])=(x0.f3.set x2.toNat (GState.mk a.f0 (bE (inc a.f1) (inc g1.f2)) 0 0)).map GState.t) (d8 (by rfl))<|AC (p:=((x0.f3.set x2.toNat (GState.mk a.f0 (bE (inc a.f1) (inc g1.f2)) 0 0)).map GState.t)[0+x2.toNat]?=some (GState.t (GState.mk a.f0 (bE (inc a.f1) (inc g1.f2)) 0 0))) (bR (bg b))<|AC f<|AC (p:=((x0.f3.set x2.toNat (GState.mk a.f0 (bE (inc a.f1) (inc g1.f2)) 0 0)).map GState.t)[0+x2.toNat]?=some (GState.t (GState.mk a.f0 (bE (inc a.f1) (inc g1.f2)) 0 0))) (bR (bg b))<|AC (p:=((x0.f3.set x2.toNat (GState.mk a.f0 (bE (inc a.f1) (inc g1.f2)) 0 0)).map GState.t).set (0+x2.toNat) (an (GState.t (GState.mk a.f0 (bE (inc a.f1) (inc g1.f2)) 0 0)) 0 [tI 0])=(x0.f3.set x2.toNat (GState.mk 0 (bE (inc a.f1) (inc g1.f2)) 0 0)).map GState.t) (d8 (by rfl))<|AC (p:=((x0.f3.set x2.toNat (GState.mk 0 (bE (inc a.f1) (inc g1.f2)) 0 0)).map GState.t)[0+x2.toNat]?=some (GState.t (GState.mk 0 (bE (inc a.f1) (inc g1.f2)) 0 0))) (bR (bg b))<|AD (Fl (bE (inc a.f1) (inc g1.f2)))<|AC (p:=((x0.f3.set x2.toNat (GState.mk 0 (bE (inc a.f1) (inc g1.f2)) 0 0)).map GState.t)[0+x2.toNat]?=some (GState.t (GState.mk 0 (bE (inc a.f1) (inc g1.f2)) 0 0))) (bR (bg b))<|AC (p:=((x0.f3.set x2.toNat (GState.mk 0 (bE (inc a.f1) (inc g1.f2)) 0 0)).map GState.t).set (0+x2.toNat) (an (GState.t (GState.mk 0 (bE (inc a.f1) (inc g1.f2)) 0 0)) 3 [tI (IntKind.wrap .i64 (x4+(dr (bE (inc a.f1) (inc g1.f2)))))])=(x0.f3.set x2.toNat (GState.mk 0 (bE (inc a.f1) (inc g1.f2)) 0 (IntKind.wrap .i64 (x4+(dr (bE (inc a.f1) (inc g1.f2))))))).map GState.t) (d8 (by rfl))<|AN))
noncomputable def pK (x0:GDag)(a:GRun)(x2:Int)(d:Bool)(x4:Int):Option (GRun×Bool):=
  match d with
   |true=>if ae.sm x0 then cond (ii x0 a)
    (cond (ag x2 0 (IntKind.wrap .i64 ((a.f3.length:Int)-(1:Int))))
     ((ap a.f3 x2).bind fun b=>cond (b.f0 != 1)
      (some ((GRun.mk ByteArray.empty (GSpan.mk 0 0) 0 ([]:List GState)),false))
      (cond (ag x4 0 68374079)
       (if ae.sm a then(ap ((id a).f3) x2).bind fun g1=>some ((GRun.mk ((id a).f0) ((id a).f1) ((id a).f2) (((id a).f3).set x2.toNat (GState.mk 2 b.f1 0 0))),true)else none)
       (some ((GRun.mk ByteArray.empty (GSpan.mk 0 0) 0 ([]:List GState)),false))))
     (some ((GRun.mk ByteArray.empty (GSpan.mk 0 0) 0 ([]:List GState)),false)))
    (some ((GRun.mk ByteArray.empty (GSpan.mk 0 0) 0 ([]:List GState)),false))else none
   |false=>if ae.sm x0 then cond (ii x0 a)
    (cond (ag x2 0 (IntKind.wrap .i64 ((a.f3.length:Int)-(1:Int))))
     ((ap a.f3 x2).bind fun b=>cond (b.f0 != 1)
      (some ((GRun.mk ByteArray.empty (GSpan.mk 0 0) 0 ([]:List GState)),false))
      (cond (ag x4 0 68374079)
       (if ae.sm a then(ap x0.f5 x2).bind fun g1=>cond (decide (b.f1≤g1.f2))
        (cond (decide ((inc b.f1)>g1.f2))
         ((ap ((id a).f3) x2).bind fun c=>if ae.sm (GRun.mk ((id a).f0) ((id a).f1) ((id a).f2) (((id a).f3).set x2.toNat (GState.mk 3 (inc b.f1) 0 0)))then some ((fk x0 (GRun.mk ((id a).f0) ((id a).f1) ((id a).f2) (((id a).f3).set x2.toNat (GState.mk 3 (inc b.f1) 0 0)))),true)else none)
         ((ap ((id a).f3) x2).bind fun c=>some ((GRun.mk ((id a).f0) ((id a).f1) ((id a).f2) (((id a).f3).set x2.toNat (GState.mk 0 (inc b.f1) 0 (IntKind.wrap .i64 (x4+(dr (inc b.f1))))))),true)))
        (cond (decide (b.f1>g1.f2))
         ((ap ((id a).f3) x2).bind fun c=>if ae.sm (GRun.mk ((id a).f0) ((id a).f1) ((id a).f2) (((id a).f3).set x2.toNat (GState.mk 3 b.f1 0 0)))then some ((fk x0 (GRun.mk ((id a).f0) ((id a).f1) ((id a).f2) (((id a).f3).set x2.toNat (GState.mk 3 b.f1 0 0)))),true)else none)
         ((ap ((id a).f3) x2).bind fun c=>some ((GRun.mk ((id a).f0) ((id a).f1) ((id a).f2) (((id a).f3).set x2.toNat (GState.mk 0 b.f1 0 (IntKind.wrap .i64 (x4+(dr b.f1)))))),true)))else none)
       (some ((GRun.mk ByteArray.empty (GSpan.mk 0 0) 0 ([]:List GState)),false))))
     (some ((GRun.mk ByteArray.empty (GSpan.mk 0 0) 0 ([]:List GState)),false)))
    (some ((GRun.mk ByteArray.empty (GSpan.mk 0 0) 0 ([]:List GState)),false))else none
theorem IB {q0:Kd}(x0:GDag)(a:GRun)(x2:Int)(s:Bool)(x4:Int):Ans (pK x0 a x2 s x4) (fun r=>Does E 6 [.agg (GDag.t .far q0 x0),.agg (GRun.t .far a),NZ x2,N0 s,NZ x4] [(true,GRun.t .own r.1),NX r.2]):=by
 unfold pK;cases s with
 |true =>
  refine NS (fun c => ?_);apply NQ<;>intro f
  ·apply NQ<;>intro g
   ·refine NR (fun b d => ?_);apply NQ<;>intro i
    ·exact NN (DP Tryz.f6 [rT,N2 (a.f3.length:Int),rT,.row (GState.t b),.b true] (AV (ψ:=fun k=>E.C k 17 [.agg (GDag.t .far q0 x0),.agg (GRun.t .far a)]=some [NX true]) (NT (eF x0 a c) (by rw[f]))<|ALn a.f3 GState.t<|AD (NV (ah x2 0 (IntKind.wrap .i64 ((a.f3.length:Int)-(1:Int)))) g)<|AR GState.t d<|AC i<|AN))
    ·apply NQ<;>intro l
     ·refine NS (fun n => ?_);refine NR (fun g1 j => ?_);exact NN (DP Tryz.f6 [rT,N2 (a.f3.length:Int),rT,.row (GState.t b),.b false,rT,.ret [(true,GRun.t .own (id a))],.row (GState.t b),.row (GState.t g1),.rows ((((id a).f3).set x2.toNat (GState.mk 2 b.f1 0 0)).map GState.t)] (AV (ψ:=fun k=>E.C k 17 [.agg (GDag.t .far q0 x0),.agg (GRun.t .far a)]=some [NX true]) (NT (eF x0 a c) (by rw[f]))<|ALn a.f3 GState.t<|AD (NV (ah x2 0 (IntKind.wrap .i64 ((a.f3.length:Int)-(1:Int)))) g)<|AR GState.t d<|AC i<|AD (NV (ah x4 0 68374079) l)<|AD (gE a n)<|AR GState.t d<|AG GState.t j<|AC (p:=(((id a).f3).map GState.t).set (0+x2.toNat) (an (GState.t g1) 0 [tI 2,tI b.f1,tI 0,tI 0])=(((id a).f3).set x2.toNat (GState.mk 2 b.f1 0 0)).map GState.t) (cB (by rfl))<|AN))
     ·exact NN (DP Tryz.f6 [rT,N2 (a.f3.length:Int),rT,.row (GState.t b),.b false,rF] (AV (ψ:=fun k=>E.C k 17 [.agg (GDag.t .far q0 x0),.agg (GRun.t .far a)]=some [NX true]) (NT (eF x0 a c) (by rw[f]))<|ALn a.f3 GState.t<|AD (NV (ah x2 0 (IntKind.wrap .i64 ((a.f3.length:Int)-(1:Int)))) g)<|AR GState.t d<|AC i<|AD (NV (ah x4 0 68374079) l)<|AN))
   ·exact NN (DP Tryz.f6 [rT,N2 (a.f3.length:Int),rF] (AV (ψ:=fun k=>E.C k 17 [.agg (GDag.t .far q0 x0),.agg (GRun.t .far a)]=some [NX true]) (NT (eF x0 a c) (by rw[f]))<|ALn a.f3 GState.t<|AD (NV (ah x2 0 (IntKind.wrap .i64 ((a.f3.length:Int)-(1:Int)))) g)<|AN))
  ·exact NN (DP Tryz.f6 [rF] (AV (ψ:=fun k=>E.C k 17 [.agg (GDag.t .far q0 x0),.agg (GRun.t .far a)]=some [NX false]) (NT (eF x0 a c) (by rw[f]))<|AN))
 |false =>
  refine NS (fun c => ?_);apply NQ<;>intro f
  ·apply NQ<;>intro g
   ·refine NR (fun b d => ?_);apply NQ<;>intro i
    ·exact NN (DP Tryz.f6 [rT,N2 (a.f3.length:Int),rT,.row (GState.t b),.b true] (AV (ψ:=fun k=>E.C k 17 [.agg (GDag.t .far q0 x0),.agg (GRun.t .far a)]=some [NX true]) (NT (eF x0 a c) (by rw[f]))<|ALn a.f3 GState.t<|AD (NV (ah x2 0 (IntKind.wrap .i64 ((a.f3.length:Int)-(1:Int)))) g)<|AR GState.t d<|AC i<|AN))
    ·apply NQ<;>intro l
     ·refine NS (fun n => ?_);refine NR (fun g1 j => ?_);apply NQ<;>intro q
      ·apply NQ<;>intro o
       ·refine NR (fun h e => ?_);refine NS (fun m => ?_);exact NN (DP Tryz.f6 [rT,N2 (a.f3.length:Int),rT,.row (GState.t b),.b false,rT,.ret [(true,GRun.t .own (id a))],.row (GState.t b),.row ((GTask.t q0) g1),.b true,.row ((GTask.t q0) g1),.b true,.row (GState.t h),.rows ((((id a).f3).set x2.toNat (GState.mk 3 (inc b.f1) 0 0)).map GState.t),.ret [(true,GRun.t .own (fk x0 (GRun.mk ((id a).f0) ((id a).f1) ((id a).f2) (((id a).f3).set x2.toNat (GState.mk 3 (inc b.f1) 0 0)))))]] (AV (ψ:=fun k=>E.C k 17 [.agg (GDag.t .far q0 x0),.agg (GRun.t .far a)]=some [NX true]) (NT (eF x0 a c) (by rw[f]))<|ALn a.f3 GState.t<|AD (NV (ah x2 0 (IntKind.wrap .i64 ((a.f3.length:Int)-(1:Int)))) g)<|AR GState.t d<|AC i<|AD (NV (ah x4 0 68374079) l)<|AD (gE a n)<|AR GState.t d<|AR (GTask.t q0) j<|AC q<|AR (GTask.t q0) j<|AC o<|AG GState.t e<|AC (p:=(((id a).f3).map GState.t).set (0+x2.toNat) (an (GState.t h) 0 [tI 3,tI (inc b.f1),tI 0,tI 0])=(((id a).f3).set x2.toNat (GState.mk 3 (inc b.f1) 0 0)).map GState.t) (cB (by rfl))<|AV (ψ:=fun k=>E.C k 20 [.agg (GDag.t .far q0 x0),.agg (GRun.t .far (GRun.mk ((id a).f0) ((id a).f1) ((id a).f2) (((id a).f3).set x2.toNat (GState.mk 3 (inc b.f1) 0 0))))]=some [(true,GRun.t .own (fk x0 (GRun.mk ((id a).f0) ((id a).f1) ((id a).f2) (((id a).f3).set x2.toNat (GState.mk 3 (inc b.f1) 0 0)))))]) (um x0 (GRun.mk ((id a).f0) ((id a).f1) ((id a).f2) (((id a).f3).set x2.toNat (GState.mk 3 (inc b.f1) 0 0))) c m)<|AN))
       ·refine NR (fun h e => ?_);exact NN (DP Tryz.f6 [rT,N2 (a.f3.length:Int),rT,.row (GState.t b),.b false,rT,.ret [(true,GRun.t .own (id a))],.row (GState.t b),.row ((GTask.t q0) g1),.b true,.row ((GTask.t q0) g1),.b false,.ret [NW (dr (inc b.f1))],.row (GState.t h),.rows ((((id a).f3).set x2.toNat (GState.mk 0 (inc b.f1) 0 (IntKind.wrap .i64 (x4+(dr (inc b.f1)))))).map GState.t)] (AV (ψ:=fun k=>E.C k 17 [.agg (GDag.t .far q0 x0),.agg (GRun.t .far a)]=some [NX true]) (NT (eF x0 a c) (by rw[f]))<|ALn a.f3 GState.t<|AD (NV (ah x2 0 (IntKind.wrap .i64 ((a.f3.length:Int)-(1:Int)))) g)<|AR GState.t d<|AC i<|AD (NV (ah x4 0 68374079) l)<|AD (gE a n)<|AR GState.t d<|AR (GTask.t q0) j<|AC q<|AR (GTask.t q0) j<|AC o<|AD (wW (inc b.f1))<|AG GState.t e<|AC (p:=(((id a).f3).map GState.t).set (0+x2.toNat) (an (GState.t h) 0 [tI 0,tI (inc b.f1),tI 0,tI (IntKind.wrap .i64 (x4+(dr (inc b.f1))))])=(((id a).f3).set x2.toNat (GState.mk 0 (inc b.f1) 0 (IntKind.wrap .i64 (x4+(dr (inc b.f1)))))).map GState.t) (cB (by rfl))<|AN))
      ·apply NQ<;>intro o
       ·refine NR (fun h e => ?_);refine NS (fun m => ?_);exact NN (DP Tryz.f6 [rT,N2 (a.f3.length:Int),rT,.row (GState.t b),.b false,rT,.ret [(true,GRun.t .own (id a))],.row (GState.t b),.row ((GTask.t q0) g1),.b false,.row ((GTask.t q0) g1),.b true,.row (GState.t h),.rows ((((id a).f3).set x2.toNat (GState.mk 3 b.f1 0 0)).map GState.t),.ret [(true,GRun.t .own (fk x0 (GRun.mk ((id a).f0) ((id a).f1) ((id a).f2) (((id a).f3).set x2.toNat (GState.mk 3 b.f1 0 0)))))]] (AV (ψ:=fun k=>E.C k 17 [.agg (GDag.t .far q0 x0),.agg (GRun.t .far a)]=some [NX true]) (NT (eF x0 a c) (by rw[f]))<|ALn a.f3 GState.t<|AD (NV (ah x2 0 (IntKind.wrap .i64 ((a.f3.length:Int)-(1:Int)))) g)<|AR GState.t d<|AC i<|AD (NV (ah x4 0 68374079) l)<|AD (gE a n)<|AR GState.t d<|AR (GTask.t q0) j<|AC q<|AR (GTask.t q0) j<|AC o<|AG GState.t e<|AC (p:=(((id a).f3).map GState.t).set (0+x2.toNat) (an (GState.t h) 0 [tI 3,tI b.f1,tI 0,tI 0])=(((id a).f3).set x2.toNat (GState.mk 3 b.f1 0 0)).map GState.t) (cB (by rfl))<|AV (ψ:=fun k=>E.C k 20 [.agg (GDag.t .far q0 x0),.agg (GRun.t .far (GRun.mk ((id a).f0) ((id a).f1) ((id a).f2) (((id a).f3).set x2.toNat (GState.mk 3 b.f1 0 0))))]=some [(true,GRun.t .own (fk x0 (GRun.mk ((id a).f0) ((id a).f1) ((id a).f2) (((id a).f3).set x2.toNat (GState.mk 3 b.f1 0 0)))))]) (um x0 (GRun.mk ((id a).f0) ((id a).f1) ((id a).f2) (((id a).f3).set x2.toNat (GState.mk 3 b.f1 0 0))) c m)<|AN))
       ·refine NR (fun h e => ?_);exact NN (DP Tryz.f6 [rT,N2 (a.f3.length:Int),rT,.row (GState.t b),.b false,rT,.ret [(true,GRun.t .own (id a))],.row (GState.t b),.row ((GTask.t q0) g1),.b false,.row ((GTask.t q0) g1),.b false,.ret [NW (dr b.f1)],.row (GState.t h),.rows ((((id a).f3).set x2.toNat (GState.mk 0 b.f1 0 (IntKind.wrap .i64 (x4+(dr b.f1))))).map GState.t)] (AV (ψ:=fun k=>E.C k 17 [.agg (GDag.t .far q0 x0),.agg (GRun.t .far a)]=some [NX true]) (NT (eF x0 a c) (by rw[f]))<|ALn a.f3 GState.t<|AD (NV (ah x2 0 (IntKind.wrap .i64 ((a.f3.length:Int)-(1:Int)))) g)<|AR GState.t d<|AC i<|AD (NV (ah x4 0 68374079) l)<|AD (gE a n)<|AR GState.t d<|AR (GTask.t q0) j<|AC q<|AR (GTask.t q0) j<|AC o<|AD (wW b.f1)<|AG GState.t e<|AC (p:=(((id a).f3).map GState.t).set (0+x2.toNat) (an (GState.t h) 0 [tI 0,tI b.f1,tI 0,tI (IntKind.wrap .i64 (x4+(dr b.f1)))])=(((id a).f3).set x2.toNat (GState.mk 0 b.f1 0 (IntKind.wrap .i64 (x4+(dr b.f1))))).map GState.t) (cB (by rfl))<|AN))
     ·exact NN (DP Tryz.f6 [rT,N2 (a.f3.length:Int),rT,.row (GState.t b),.b false,rF] (AV (ψ:=fun k=>E.C k 17 [.agg (GDag.t .far q0 x0),.agg (GRun.t .far a)]=some [NX true]) (NT (eF x0 a c) (by rw[f]))<|ALn a.f3 GState.t<|AD (NV (ah x2 0 (IntKind.wrap .i64 ((a.f3.length:Int)-(1:Int)))) g)<|AR GState.t d<|AC i<|AD (NV (ah x4 0 68374079) l)<|AN))
   ·exact NN (DP Tryz.f6 [rT,N2 (a.f3.length:Int),rF] (AV (ψ:=fun k=>E.C k 17 [.agg (GDag.t .far q0 x0),.agg (GRun.t .far a)]=some [NX true]) (NT (eF x0 a c) (by rw[f]))<|ALn a.f3 GState.t<|AD (NV (ah x2 0 (IntKind.wrap .i64 ((a.f3.length:Int)-(1:Int)))) g)<|AN))
  ·exact NN (DP Tryz.f6 [rF] (AV (ψ:=fun k=>E.C k 17 [.agg (GDag.t .far q0 x0),.agg (GRun.t .far a)]=some [NX false]) (NT (eF x0 a c) (by rw[f]))<|AN))
def nH (r:GRun)(i:Int)(x:GState):GRun:=⟨r.f0,r.f1,r.f2,r.f3.set i.toNat x⟩
noncomputable def tC (d:GDag)(r:GRun)(i:Int)(n m a:Int):GRun:=cond (decide (n>m)) (iQ (nH r i ⟨3,n,0,0⟩) d) (nH r i ⟨0,n,0,IntKind.wrap .i64 (a+dr n)⟩)
noncomputable def gG (r:GRun)(d:GDag)(i:Int)(a:Bool)(b:Int):GRun:=match ap r.f3 i,ap d.f5 i with
 |some x,some t=>cond a (nH r i ⟨2,x.f1,0,0⟩) (tC d r i (bE (inc x.f1) (inc t.f2)) t.f2 b)
 |_,_=>r
def sR (r:GRun)(i:Int):Bool:=match ap r.f3 i with
 |some x=>x.f0==1
 |none=>false
noncomputable def gt (d:GDag)(r:GRun)(i:Int)(a:Bool)(b:Int):GRun×Bool:=cond (ii d r&&(oO d i&&(mo b&&sR r i))) (gG r d i a b,true) (⟨ByteArray.empty,⟨0,0⟩,0,[]⟩,false)
theorem oh {r:GRun}(g:ae.sm r)(i:Int)(x:GState):ae.sm (nH r i x):=⟨g.1,g.2.1,⟨by show(r.f3.set _ _).length≤_;rw[Qe];exact g.2.2.1,fun y _=>trivial⟩⟩
theorem GE {r:GRun}(g:ae.sm r)(d:GDag):ae.sm (iQ r d):=⟨g.1,g.2.1,⟨by show(mC d r (dA d.f5) r.f3).length≤_;rw[w6];exact g.2.2.1,fun y _=>trivial⟩⟩
theorem BH (r:GRun)(i:Int)(x:GState):(nH r i x).f3.length=r.f3.length:=by show(r.f3.set _ _).length=_;rw[Qe]
theorem FL (r:GRun)(d:GDag)(i:Int)(a:Bool)(b:Int)(h:ae.sm d)(g:ae.sm r)(hd:aR d=true)(j:r.f3.length=d.f5.length)(hi:0≤i∧i<(d.f5.length:Int)):k9 r d i a b=some (gG r d i a b):=by
 obtain⟨t,c,_⟩:=fi hi;obtain⟨x,f,_⟩:=fi (l:=r.f3) (k:=i) (by omega);have e:∀y,GRun.mk r.f0 r.f1 r.f2 (r.f3.set i.toNat y)=nH r i y:=fun _=>rfl
 unfold k9 gG tC;cases a with
 |true=>simp only[f,c,N4,e];rfl
 |false =>
  simp only[f,c,N4,e,N5 h,N5 hd];have hs:∀y,ae.sm (nH r i y):=fun y=>oh g i y
  have m:∀y,(r.f3.set i.toNat y).length=d.f5.length:=fun y=>(BH r i y).trans j
  simp only[N5 (hs _),N5 (m _)];cases decide (bE (inc x.f1) (inc t.f2)>t.f2)<;>rfl
theorem xu {d:GDag}{r:GRun}:∀(l:List GState)(i:Nat),fH d r l i=true→∀k,i≤k→k<i+l.length→kg d r (k:Int)=true
 |[],i,_,k,b,a=>by simp at a;omega
 |x::l,i,h,k,b,a=>by
  unfold fH at h;rw[Ow]at h;rcases Nat.eq_or_lt_of_le b with rfl|q
  ·exact h.1
  ·exact xu l (i+1) h.2 k (by omega) (by simp at a;omega)
theorem If {x a b:Int}:ag x a b=true↔a≤x∧x≤b:=by unfold ag;simp
theorem GG {d:GDag}{r:GRun}(h:ii d r=true){i:Int}{x:GState}{t:GTask}(hi:0≤i∧i<(d.f5.length:Int))(j:ap r.f3 i=some x)(f:ap d.f5 i=some t):0≤x.f1∧x.f1≤t.f2+1∧0≤t.f2∧t.f2≤3:=by
 unfold ii at h;rw[Ow]at h;have l:=qx h.2;obtain⟨-, -,k, -, -⟩:=nN h.1;have e:((i.toNat:Nat):Int)=i:=by omega
 have b:=pI d.f5 d.f5 0 rfl k i.toNat t (by omega) (by rw[←ex,e];exact f);have hs:=h.2;unfold eC at hs;simp only[Ow]at hs;have a:=xu _ 0 hs.2.2.2.2 i.toNat (by omega) (by omega);rw[e]at a;unfold kg at a;rw[j,f]at a;unfold ic at b;replace a:A6 x (inc t.f2) (bF d r i).1 (bq d r i).2=true:=a;unfold A6 at a;simp only[Ow,If]at a b;have g:=b.2.2.2.1;have c:=a.2.1;rw[eJ t.f2 (by omega) (by omega)]at c;exact⟨c.1,c.2,g.1,g.2⟩
theorem De (d:GDag)(r:GRun)(hd:aR d=true)(a:r.f3.length=d.f5.length):fk d r=iQ r d:=by unfold fk;rw[hd,show((r.f3.length:Int)==(d.f5.length:Int))=true by rw[PK];omega];rfl
theorem Kq (d:GDag)(r:GRun)(i:Int)(a:Bool)(c:Int)(g:ae.sm r):ae.sm (gt d r i a c).1:=by
 unfold gt;cases ii d r&&(oO d i&&(mo c&&sR r i))with
 |false=>exact⟨(by decide:(ByteArray.empty).size≤1050000),trivial,⟨by simp,fun y e=>by cases e⟩⟩
 |true =>
  show ae.sm (gG r d i a c);unfold gG;split
  ·unfold tC;cases a with
   |true=>exact oh g _ _
   |false =>
    have k:∀(b:Bool)(u v:GRun),ae.sm u→ae.sm v→ae.sm (cond b u v):=fun b u v p q=>by cases b<;>assumption
    exact k _ _ _ (oh g _ _) (k _ _ _ (GE (oh g _ _) d) (oh g _ _))
  ·exact g
theorem JX {x t:Int}(h:0≤x∧x≤t+1∧0≤t∧t≤3):bE (inc x) (inc t)=cond (decide (x≤t)) (inc x) x:=by
 rw[eJ x (by omega) (by omega),eJ t (by omega) (by omega)];unfold bE;by_cases q:x≤t
 ·rw[Of q];split<;>simp<;>omega
 ·rw[Oe q];split<;>simp<;>omega
theorem K6 (d:GDag)(r:GRun)(i:Int)(a:Bool)(b:Int)(h:ae.sm d)(g:ae.sm r):pK d r i a b=some (gt d r i a b):=by
 have em:ag b 0 68374079=mo b:=rfl;unfold pK gt;cases q:ii d r with
 |false=>cases a<;>simp only[N5 h]<;>rfl
 |true =>
  have c:=q;unfold ii at c;rw[Ow]at c;have o:=qx c.2;have e:ag i 0 (IntKind.wrap .i64 ((r.f3.length:Int)-1))=oO d i:=by rw[o];rfl
  cases q1:oO d i with
  |false=>cases a<;>simp only[N5 h,e,q1]<;>rfl
  |true =>
   have hi:=Bt q1 h;obtain⟨t,p,_⟩:=fi hi;obtain⟨x,f,_⟩:=fi (l:=r.f3) (k:=i) (by omega);have j:sR r i=(x.f0==1):=by unfold sR;rw[f]
   have s:(x.f0 != 1)= !(x.f0==1):=rfl;have u:=JX (GG q hi f p);have v:∀y,GRun.mk (id r).f0 (id r).f1 (id r).f2 ((id r).f3.set i.toNat y)=nH r i y:=fun _=>rfl
   have m:ap (id r).f3 i=some x:=f;have hb:∀y,fk d (nH r i y)=iQ (nH r i y) d:=fun y=>De d _ c.1 ((BH _ _ _).trans o)
   have hs:∀y,ae.sm (nH r i y):=fun y=>oh g i y
   rw[j];unfold gG tC;simp only[N5 h,e,q1,f,p,m,N4,Om,s,em,N5 g,v,hb,N5 (hs _),u];cases x.f0==1<;>cases mo b<;>cases a<;>try rfl
   cases decide (x.f1≤t.f2)
   ·cases n:decide (x.f1>t.f2)<;>simp[n]
   ·cases n:decide (inc x.f1>t.f2)<;>simp[n]
theorem zM {q1:Kd}(x0:GRun)(a:GDag)(x2:Int)(b:Bool)(x4:Int)(h:ae.sm a)(g:ae.sm x0)(hd:aR a=true)(c:x0.f3.length=a.f5.length)(hi:0≤x2∧x2<(a.f5.length:Int)):Does E 29 [.box () (GRun.t .own x0),.agg (GDag.t .far q1 a),NZ x2,N0 b,NZ x4] [(true,GRun.t .own (gG x0 a x2 b x4))]:=by exact Ae x0 a x2 b x4 _ (FL x0 a x2 b x4 h g hd c hi)
theorem Hq {q0:Kd}(x0:GDag)(a:GRun)(x2:Int)(b:Bool)(x4:Int)(h:ae.sm x0)(g:ae.sm a):Does E 6 [.agg (GDag.t .far q0 x0),.agg (GRun.t .far a),NZ x2,N0 b,NZ x4] [(true,GRun.t .own ((gt x0 a x2 b x4).1)),NX ((gt x0 a x2 b x4).2)]:=by exact IB x0 a x2 b x4 _ (K6 x0 a x2 b x4 h g)
noncomputable def pz (x0:GDag)(a:GRun)(x2:Int)(b:Bool)(x4:Int):Option (GRun×Bool):=cond (oO x0 x2) (cond (mo x4) (if ae.sm x0 then cond (ii x0 a) ((ap a.f3 x2).bind fun c=>cond (c.f0 != 1) (some ((GRun.mk ByteArray.empty (GSpan.mk 0 0) 0 ([]:List GState)),false)) (if ae.sm a then if ae.sm (id a)then if aR x0=true then if(id a).f3.length=x0.f5.length then if 0≤x2∧x2<(x0.f5.length:Int)then some ((gG (id a) x0 x2 b x4),true)else none else none else none else none else none)) (some ((GRun.mk ByteArray.empty (GSpan.mk 0 0) 0 ([]:List GState)),false))else none) (some ((GRun.mk ByteArray.empty (GSpan.mk 0 0) 0 ([]:List GState)),false))) (some ((GRun.mk ByteArray.empty (GSpan.mk 0 0) 0 ([]:List GState)),false))
theorem H4 {q0:Kd}(x0:GDag)(a:GRun)(x2:Int)(b:Bool)(x4:Int):Ans (pz x0 a x2 b x4) (fun r=>Does E 9 [.agg (GDag.t .far q0 x0),.agg (GRun.t .far a),NZ x2,N0 b,NZ x4] [(true,GRun.t .own r.1),NX r.2]):=by
 unfold pz;apply NQ<;>intro c
 ·apply NQ<;>intro d
  ·refine NS (fun e => ?_);apply NQ<;>intro f
   ·refine NR (fun h i => ?_);apply NQ<;>intro j
    ·exact NN (DP Tryz.f9 [rT,rT,rT,.row (GState.t h),.b true] (AV (ψ:=fun k=>E.C k 25 [.agg (GDag.t .far q0 x0),NZ x2]=some [NX true]) (NT (mR x0 x2) (by rw[c]))<|AD (NV (mQ x4) d)<|AV (ψ:=fun k=>E.C k 27 [.agg (GDag.t .far q0 x0),.agg (GRun.t .far a)]=some [NX true]) (NT (uW x0 a e) (by rw[f]))<|AR GState.t i<|AC j<|AN))
    ·refine NS (fun l => ?_);refine NS (fun m => ?_);refine NS (fun n => ?_);refine NS (fun o => ?_);refine NS (fun g => ?_);exact NN (DP Tryz.f9 [rT,rT,rT,.row (GState.t h),.b false,.ret [(true,GRun.t .own (id a))],.ret [(true,GRun.t .own (gG (id a) x0 x2 b x4))]] (AV (ψ:=fun k=>E.C k 25 [.agg (GDag.t .far q0 x0),NZ x2]=some [NX true]) (NT (mR x0 x2) (by rw[c]))<|AD (NV (mQ x4) d)<|AV (ψ:=fun k=>E.C k 27 [.agg (GDag.t .far q0 x0),.agg (GRun.t .far a)]=some [NX true]) (NT (uW x0 a e) (by rw[f]))<|AR GState.t i<|AC j<|AD (Fn a l)<|AV (ψ:=fun k=>E.C k 29 [.box () (GRun.t .own (id a)),.agg (GDag.t .far q0 x0),NZ x2,N0 b,NZ x4]=some [(true,GRun.t .own (gG (id a) x0 x2 b x4))]) (zM (id a) x0 x2 b x4 e m n o g)<|AN))
   ·exact NN (DP Tryz.f9 [rT,rT,rF] (AV (ψ:=fun k=>E.C k 25 [.agg (GDag.t .far q0 x0),NZ x2]=some [NX true]) (NT (mR x0 x2) (by rw[c]))<|AD (NV (mQ x4) d)<|AV (ψ:=fun k=>E.C k 27 [.agg (GDag.t .far q0 x0),.agg (GRun.t .far a)]=some [NX false]) (NT (uW x0 a e) (by rw[f]))<|AN))
  ·exact NN (DP Tryz.f9 [rT,rF] (AV (ψ:=fun k=>E.C k 25 [.agg (GDag.t .far q0 x0),NZ x2]=some [NX true]) (NT (mR x0 x2) (by rw[c]))<|AD (NV (mQ x4) d)<|AN))
 ·exact NN (DP Tryz.f9 [rF] (AV (ψ:=fun k=>E.C k 25 [.agg (GDag.t .far q0 x0),NZ x2]=some [NX false]) (NT (mR x0 x2) (by rw[c]))<|AN))
theorem K5 (d:GDag)(r:GRun)(i:Int)(b:Bool)(c:Int)(h:ae.sm d)(g:ae.sm r):pz d r i b c=some (gt d r i b c):=by
 unfold pz gt;cases q1:oO d i with
 |false=>cases ii d r<;>rfl
 |true =>
  cases p:mo c with
  |false=>cases ii d r<;>rfl
  |true =>
   cases q:ii d r with
   |false=>simp only[N5 h]<;>rfl
   |true =>
    have a:=q;unfold ii at a;rw[Ow]at a;have m:=qx a.2;have hi:=Bt q1 h;obtain⟨x,j,_⟩:=fi (l:=r.f3) (k:=i) (by omega);have e:sR r i=(x.f0==1):=by unfold sR;rw[j]
    have n:(x.f0 != 1)= !(x.f0==1):=rfl;have o:ae.sm (id r):=g;have f:(id r).f3.length=d.f5.length:=m;rw[e];simp only[N5 h,j,N4,Om,n,N5 g,N5 o,N5 a.1,N5 f,N5 hi];cases x.f0==1<;>rfl
theorem Hn {q0:Kd}(x0:GDag)(a:GRun)(x2:Int)(b:Bool)(x4:Int)(h:ae.sm x0)(g:ae.sm a):Does E 9 [.agg (GDag.t .far q0 x0),.agg (GRun.t .far a),NZ x2,N0 b,NZ x4] [(true,GRun.t .own ((gt x0 a x2 b x4).1)),NX ((gt x0 a x2 b x4).2)]:=by exact H4 x0 a x2 b x4 _ (K5 x0 a x2 b x4 h g)
end
end Go.Proofs.YtkgecjmfkcohkaaGreatDoor.Am
