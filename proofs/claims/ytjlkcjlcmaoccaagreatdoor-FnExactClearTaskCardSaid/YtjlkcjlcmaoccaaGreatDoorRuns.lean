/- What is blocked; what stands below a task; runs that are cleared in part. -/
import Derived.Test.YtjlkcjlcmaoccaaGreatDoorRitf
namespace Go.Proofs.YtjlkcjlcmaoccaaGreatDoor.Am
open Go
set_option linter.unusedVariables false
set_option linter.unusedSimpArgs false
section
open Go.Proofs Classical
set_option maxRecDepth 100000
theorem Cr {ts:List GTask}(n:cG ts):∀(k:Nat)(o:List Int),o.Nodup→(∀x∈o,0≤x∧x<(ts.length:Int))→(jx ts k o).Nodup∧∀x∈jx ts k o,0≤x∧x<(ts.length:Int)
 | 0,o,c,d=>⟨c,d⟩
 |k+1,o,c,d=>by
  unfold jx;cases q:fk o ts ts 0 with
  |none=>exact⟨c,d⟩
  |some i =>
   obtain⟨t,j,r,f,h,s⟩:=pO q;have l:i=j:=by omega
   subst l;rw[n.2 i t f]at h;have hi:i<ts.length:=by
    rcases Pf i ts.length with g|g
    ·exact g
    ·rw[Pc g]at f;cases f
   have m:(i:Int)∉o:=fun q=>by rw[oD.2 q]at h;cases h
   refine Cr n k _ ?_ fun x hx => ?_
   ·rw[List.nodup_append];exact⟨c,by simp,fun a p b hb e=>by rw[Pe]at hb;subst hb;subst e;exact m p⟩
   ·rcases PE.1 hx with hx|hx
    ·exact d x hx
    ·rw[Pe]at hx;subst hx;omega
theorem wR {ts:List GTask}(a:cG ts):(bW ts).Nodup∧∀x∈bW ts,0≤x∧x<(ts.length:Int):=Cr a _ _ (by simp) (fun x b=>by cases b)
theorem tO (h:([]:List GState).length*32≤140737488355328∧([]:List GState).length≤4611686018427387904):Does E 53 [.one (.s .far () 4 (([]:List GState).map GState.t))] [(false,[.s .own () 4 (([]:List GState).map GState.t)])]:=
 ON (fn:=Tryz.f53) [.b true,.rows (([]:List GState).map GState.t)] [fun _=>(([]:List GState).map GState.t).length=0,fun _=>([(false,[.s .own () 4 ([]:List (List (T Unit)))])]:URes)=[(false,[.s .own () 4 ([]:List (List (T Unit)))])],fun _=>(([]:List GState).map GState.t).all (fun r=>r.all T.flat)=true∧(([]:List (List (T Unit))).length+(([]:List GState).map GState.t).length)*32≤140737488355328∧([]:List (List (T Unit))).length+(([]:List GState).map GState.t).length≤4611686018427387904,fun _=>([]:List (List (T Unit)))++(([]:List GState).map GState.t)=(([]:List GState).map GState.t)] rfl (fun _=>rfl) (fun k=>by kernel_rfl) ⟨Ev.c rfl,Ev.c rfl,Ev.c (HS (fun x=>rfl) h),Ev.c rfl,trivial⟩
theorem tP (y:GState)(l:List GState)(h:(y::l).length*32≤140737488355328∧(y::l).length≤4611686018427387904):Does E 53 [.one (.s .far () 4 ((y::l).map GState.t))] [(false,[.s .own () 4 ((y::l).map GState.t)])]:=
 ON (fn:=Tryz.f53) [.b false,.rows ((y::l).map GState.t)] [fun _=>((y::l).map GState.t).length≠0,fun _=>((y::l).map GState.t).all (fun r=>r.all T.flat)=true∧(([]:List (List (T Unit))).length+((y::l).map GState.t).length)*32≤140737488355328∧([]:List (List (T Unit))).length+((y::l).map GState.t).length≤4611686018427387904,fun _=>([]:List (List (T Unit)))++((y::l).map GState.t)=((y::l).map GState.t)] rfl (fun _=>rfl) (fun k=>by kernel_rfl) ⟨Ev.c (by simp),Ev.c (HS (fun x=>rfl) h),Ev.c rfl,trivial⟩
noncomputable def ki (x0:List GState):Option (List GState):=if x0.length*32≤140737488355328∧x0.length≤4611686018427387904 then some x0 else none
theorem uT (x0:List GState):Ans (ki x0) (fun r=>Does E 53 [.one (.s .far () 4 (x0.map GState.t))] [(false,[.s .own () 4 (r.map GState.t)])]):=by
 unfold ki;refine OT (fun h=>OO ?_);cases x0 with
 |nil=>exact tO h
 |cons y l=>exact tP y l h
theorem t7 (x0:List GState)(h:x0.length≤1050000):Does E 53 [.one (.s .far () 4 (x0.map GState.t))] [(false,[.s .own () 4 ((id x0).map GState.t)])]:=by exact uT x0 _ (by unfold ki;rw[O6 (by omega)];rfl)
noncomputable def sP (x0:GRun):Option (GRun):=if(([]:List GState).length+x0.f3.length)*32≤140737488355328∧([]:List GState).length+x0.f3.length≤4611686018427387904 then some ((GRun.mk x0.f0 x0.f1 x0.f2 (([]:List GState)++x0.f3)))else none
theorem HA (x0:GRun):Ans (sP x0) (fun r=>Does E 21 [.agg (GRun.t .far x0)] [(true,GRun.t .own r)]):=by unfold sP;refine OT (fun a => ?_);exact OO (DP Tryz.f21 [.rows ((([]:List GState)++x0.f3).map GState.t)] (AC (p:=(x0.f3.map GState.t).all (fun r=>r.all T.flat)=true∧((([]:List GState).map GState.t).length+(x0.f3.map GState.t).length)*32≤140737488355328∧(([]:List GState).map GState.t).length+(x0.f3.map GState.t).length≤4611686018427387904) (by exact DN (fun x=>rfl) a)<|AC (p:=(([]:List GState).map GState.t)++(x0.f3.map GState.t)=(([]:List GState)++x0.f3).map GState.t) (by exact Ed)<|AN))
theorem i7 (x0:GRun)(h:ae.sm x0):Does E 21 [.agg (GRun.t .far x0)] [(true,GRun.t .own (id x0))]:=by have:=h.2.2.1;exact HA x0 _ (by unfold sP;(first|rw[O6 (by omega)]|rw[O6 (by simp;omega)]);rfl)
noncomputable def su (x0:GRun):Option (GRun):=if x0.f3.length≤1050000 then some ((GRun.mk x0.f0 x0.f1 x0.f2 (id x0.f3)))else none
theorem GW (x0:GRun):Ans (su x0) (fun r=>Does E 31 [.agg (GRun.t .far x0)] [(true,GRun.t .own r)]):=by unfold su;refine OT (fun a => ?_);exact OO (DP Tryz.f31 [.ret [(false,[.s .own () 4 ((id x0.f3).map GState.t)])]] (AD (t7 x0.f3 a)<|AN))
theorem xB (x0:GRun)(h:ae.sm x0):Does E 31 [.agg (GRun.t .far x0)] [(true,GRun.t .own (id x0))]:=by have:=h.2.2.1;exact GW x0 _ (by unfold su;(first|rw[O6 (by omega)]|rw[O6 (by simp;omega)]);rfl)
inductive tK where|x0 (v5_4:List GState)
def eX (q0:Kd)(v2_0 v2_1:ByteArray)(v2_2 v2_3:Int)(v2_4:Bool)(a:List GTask)(b:ByteArray)(c d e:Int)(f:List GState)(g:ByteArray)(h i j:Int)(v5_4:List GState)(v6:List Int)(v7:Int):US:=stL 74 [(2,.box () [tS v2_0,tS v2_1,tI v2_2,tI v2_3,tB v2_4,.s .far () 5 (a.map (GTask.t q0))]),(4,.box () [tS b,tI c,tI d,tI e,.s .own () 4 (f.map GState.t)]),(5,.box () [tS g,tI h,tI i,tI j,.s .own () 4 (v5_4.map GState.t)]),(6,.one (.s .own () 1 (v6.map etI))),(7,O0 v7)]
def m7 (q0:Kd)(b:ByteArray)(c d e:Int)(f:List GState)(g:ByteArray)(h i j:Int)(a:List GState):US:=stL 74 [(4,.box () [tS b,tI c,tI d,tI e,.s .own () 4 (f.map GState.t)]),(5,.box () [tS g,tI h,tI i,tI j,.s .own () 4 (a.map GState.t)])]
abbrev lQ:US→Exit→US→Prop:=Round E 22 (av Tryz.f22 0)
def Bq {q0:Kd}(v2_0 v2_1:ByteArray)(v2_2 v2_3:Int)(v2_4:Bool)(k:List GTask)(a:ByteArray)(b c d:Int)(e:List GState)(f:ByteArray)(g h i:Int)(v5_4:List GState)(v6:List Int)(v7:Int):tK→Prop| .x0 j=>Loops E 22 (av Tryz.f22 0) (eX q0 v2_0 v2_1 v2_2 v2_3 v2_4 k a b c d e f g h i v5_4 v6 v7) (.exit 0) (m7 q0 a b c d e f g h i j)
noncomputable def dU (v2_0 v2_1:ByteArray)(v2_2 v2_3:Int)(a:List GTask)(b:ByteArray)(c d e:Int):List Int→Nat→Bool→(List GState)→Option tK|[],i,v2_4,v5_4=>some (.x0 v5_4)|hd::rest,i,v2_4,v5_4=>if ae.sm (GDag.mk v2_0 v2_1 v2_2 v2_3 v2_4 a)then if aN (GDag.mk v2_0 v2_1 v2_2 v2_3 v2_4 a)=true then if(GRun.mk b (GSpan.mk c d) e v5_4).f3.length=(GDag.mk v2_0 v2_1 v2_2 v2_3 v2_4 a).f5.length then if 0≤hd∧hd<((GDag.mk v2_0 v2_1 v2_2 v2_3 v2_4 a).f5.length:Int)then cond ((aq (GDag.mk v2_0 v2_1 v2_2 v2_3 v2_4 a) (GRun.mk b (GSpan.mk c d) e v5_4) hd).2) ((am v5_4 hd).bind fun g1=>cond (g1.f0==(0:Int)) (dU v2_0 v2_1 v2_2 v2_3 a b c d e rest (i+1) v2_4 (v5_4.set hd.toNat (GState.mk 4 g1.f1 g1.f2 0))) (dU v2_0 v2_1 v2_2 v2_3 a b c d e rest (i+1) v2_4 v5_4)) (dU v2_0 v2_1 v2_2 v2_3 a b c d e rest (i+1) v2_4 v5_4)else none else none else none else none
theorem Bp {q0:Kd}(v2_0 v2_1:ByteArray)(v2_2 v2_3:Int)(e:List GTask)(f:ByteArray)(g j l:Int)(m:List GState)(a:ByteArray)(b c d:Int)(v6:List Int)(rest:List Int):∀(i:Nat)(v2_4:Bool)(v5_4:List GState),(v6).drop i=rest→v6.length≤9223372036854775807→Ans (dU v2_0 v2_1 v2_2 v2_3 e a b c d rest i v2_4 v5_4) (Bq (q0:=q0) v2_0 v2_1 v2_2 v2_3 v2_4 e f g j l m a b c d v5_4 v6 (i:Int)):=by
 induction rest with
 |nil =>intro i v2_4 v5_4 q s;have hb:=aZ q;unfold dU;exact OO (OQ (show lQ (eX q0 v2_0 v2_1 v2_2 v2_3 v2_4 e f g j l m a b c d v5_4 v6 (i:Int)) (.exit 0) (m7 q0 f g j l m a b c d v5_4)from RP [O3 (v6.length:Int),.b false] (ALn v6 etI<|AC hb<|AN)) (by intro h;cases h))
 |cons hd rest w =>
  intro i v2_4 v5_4 q s;have hb:=aT q;have x:=aU q s;have n:=aE q;have o:=aW q;unfold dU;refine OT (fun z => ?_);refine OT (fun A => ?_);refine OT (fun B => ?_);refine OT (fun D => ?_);apply OR<;>intro F
  ·refine OS (fun g1 u => ?_);apply OR<;>intro G
   ·exact(w (i+1) v2_4 (v5_4.set hd.toNat (GState.mk 4 g1.f1 g1.f2 0)) n s).mono fun y v=>by have r:lQ (eX q0 v2_0 v2_1 v2_2 v2_3 v2_4 e f g j l m a b c d v5_4 v6 (i:Int)) .normal (eX q0 v2_0 v2_1 v2_2 v2_3 v2_4 e f g j l m a b c d (v5_4.set hd.toNat (GState.mk 4 g1.f1 g1.f2 0)) v6 (inc (i:Int))):=RP [O3 (v6.length:Int),.b true,.row (etI hd),.ret [OY ((aq (GDag.mk v2_0 v2_1 v2_2 v2_3 v2_4 e) (GRun.mk a (GSpan.mk b c) d v5_4) hd).1),OY true],.row (etI hd),.row (GState.t g1),.b true,.row (etI hd),.row (GState.t g1),.rows ((v5_4.set hd.toNat (GState.mk 4 g1.f1 g1.f2 g1.f3)).map GState.t),.row (etI hd),.row (GState.t (GState.mk 4 g1.f1 g1.f2 g1.f3)),.rows ((v5_4.set hd.toNat (GState.mk 4 g1.f1 g1.f2 0)).map GState.t)] (ALn v6 etI<|AC hb<|AG etI o<|AV (ψ:=fun k=>E.C k 19 [.agg (GDag.t .far q0 (GDag.mk v2_0 v2_1 v2_2 v2_3 v2_4 e)),.agg (GRun.t .far (GRun.mk a (GSpan.mk b c) d v5_4)),O0 hd]=some [OY ((aq (GDag.mk v2_0 v2_1 v2_2 v2_3 v2_4 e) (GRun.mk a (GSpan.mk b c) d v5_4) hd).1),OY true]) (OU (bh (GDag.mk v2_0 v2_1 v2_2 v2_3 v2_4 e) (GRun.mk a (GSpan.mk b c) d v5_4) hd z A B D) (by rw[F]))<|AG etI o<|AG GState.t u<|AC G<|AG etI o<|AG GState.t u<|AC (p:=(v5_4.map GState.t).set (0+hd.toNat) (au (GState.t g1) 0 [tI 4])=(v5_4.set hd.toNat (GState.mk 4 g1.f1 g1.f2 g1.f3)).map GState.t) (db (by rfl))<|AG etI o<|AC (p:=0≤hd∧hd<(((v5_4.set hd.toNat (GState.mk 4 g1.f1 g1.f2 g1.f3)).map GState.t).length:Int)) (gK (cL u))<|AC (p:=((v5_4.set hd.toNat (GState.mk 4 g1.f1 g1.f2 g1.f3)).map GState.t)[0+hd.toNat]?=some (GState.t (GState.mk 4 g1.f1 g1.f2 g1.f3))) (dg (cL u))<|AC (p:=((v5_4.set hd.toNat (GState.mk 4 g1.f1 g1.f2 g1.f3)).map GState.t).set (0+hd.toNat) (au (GState.t (GState.mk 4 g1.f1 g1.f2 g1.f3)) 3 [tI 0])=(v5_4.set hd.toNat (GState.mk 4 g1.f1 g1.f2 0)).map GState.t) (l3 (by rfl))<|AN);rw[x]at r;cases y<;>exact OP r v
   ·exact(w (i+1) v2_4 v5_4 n s).mono fun y v=>by have r:lQ (eX q0 v2_0 v2_1 v2_2 v2_3 v2_4 e f g j l m a b c d v5_4 v6 (i:Int)) .normal (eX q0 v2_0 v2_1 v2_2 v2_3 v2_4 e f g j l m a b c d v5_4 v6 (inc (i:Int))):=RP [O3 (v6.length:Int),.b true,.row (etI hd),.ret [OY ((aq (GDag.mk v2_0 v2_1 v2_2 v2_3 v2_4 e) (GRun.mk a (GSpan.mk b c) d v5_4) hd).1),OY true],.row (etI hd),.row (GState.t g1),.b false] (ALn v6 etI<|AC hb<|AG etI o<|AV (ψ:=fun k=>E.C k 19 [.agg (GDag.t .far q0 (GDag.mk v2_0 v2_1 v2_2 v2_3 v2_4 e)),.agg (GRun.t .far (GRun.mk a (GSpan.mk b c) d v5_4)),O0 hd]=some [OY ((aq (GDag.mk v2_0 v2_1 v2_2 v2_3 v2_4 e) (GRun.mk a (GSpan.mk b c) d v5_4) hd).1),OY true]) (OU (bh (GDag.mk v2_0 v2_1 v2_2 v2_3 v2_4 e) (GRun.mk a (GSpan.mk b c) d v5_4) hd z A B D) (by rw[F]))<|AG etI o<|AG GState.t u<|AC G<|AN);rw[x]at r;cases y<;>exact OP r v
  ·exact(w (i+1) v2_4 v5_4 n s).mono fun y v=>by have r:lQ (eX q0 v2_0 v2_1 v2_2 v2_3 v2_4 e f g j l m a b c d v5_4 v6 (i:Int)) .normal (eX q0 v2_0 v2_1 v2_2 v2_3 v2_4 e f g j l m a b c d v5_4 v6 (inc (i:Int))):=RP [O3 (v6.length:Int),.b true,.row (etI hd),.ret [OY ((aq (GDag.mk v2_0 v2_1 v2_2 v2_3 v2_4 e) (GRun.mk a (GSpan.mk b c) d v5_4) hd).1),OY false]] (ALn v6 etI<|AC hb<|AG etI o<|AV (ψ:=fun k=>E.C k 19 [.agg (GDag.t .far q0 (GDag.mk v2_0 v2_1 v2_2 v2_3 v2_4 e)),.agg (GRun.t .far (GRun.mk a (GSpan.mk b c) d v5_4)),O0 hd]=some [OY ((aq (GDag.mk v2_0 v2_1 v2_2 v2_3 v2_4 e) (GRun.mk a (GSpan.mk b c) d v5_4) hd).1),OY false]) (OU (bh (GDag.mk v2_0 v2_1 v2_2 v2_3 v2_4 e) (GRun.mk a (GSpan.mk b c) d v5_4) hd z A B D) (by rw[F]))<|AN);rw[x]at r;cases y<;>exact OP r v
noncomputable def mL (x0:GDag)(a:GRun):Option (GRun):=
  if ae.sm a then if ae.sm x0 then cond (aN x0)
   (cond ((a.f3.length:Int) != (x0.f5.length:Int))
    (some ((id a)))
    (if ae.sm x0.f5 then if cG x0.f5 then if(bW x0.f5).length≤9223372036854775807 then(dU x0.f0 x0.f1 x0.f2 x0.f3 x0.f5 ((id a).f0) (((id a).f1).f0) (((id a).f1).f1) ((id a).f2) (bW x0.f5) 0 x0.f4 ((id a).f3)).bind fun y=>match y with
     | .x0 b=>(some ((GRun.mk ((id a).f0) ((id a).f1) ((id a).f2) b)))else none else none else none))
   (some ((id a)))else none else none
theorem Dh {q0:Kd}(x0:GDag)(a:GRun):Ans (mL x0 a) (fun r=>Does E 22 [.agg (GDag.t .far q0 x0),.agg (GRun.t .far a)] [(true,GRun.t .own r)]):=by
 unfold mL;refine OT (fun c => ?_);refine OT (fun d => ?_);apply OR<;>intro e
 ·apply OR<;>intro h
  ·exact OO (DP Tryz.f22 [.ret [(true,GRun.t .own (id a))],rT,O3 (a.f3.length:Int),O3 (x0.f5.length:Int),.b true] (AD (i7 a c)<|AV (ψ:=fun k=>E.C k 40 [.agg (GDag.t .far q0 x0)]=some [OY true]) (OU (jJ x0 d) (by rw[e]))<|ALn a.f3 GState.t<|ALn x0.f5 (GTask.t q0)<|AC h<|AN))
  ·refine OT (fun i => ?_);refine OT (fun j => ?_);refine OT (fun f => ?_);refine OS (fun y g => ?_);replace g:=Bp (q0:=q0) x0.f0 x0.f1 x0.f2 x0.f3 x0.f5 ByteArray.empty 0 0 0 ([]) ((id a).f0) (((id a).f1).f0) (((id a).f1).f1) ((id a).f2) (bW x0.f5) (bW x0.f5) 0 x0.f4 ((id a).f3) rfl f y g;cases y with
   |x0 b =>have l:=g;exact OO (DP Tryz.f22 [.ret [(true,GRun.t .own (id a))],rT,O3 (a.f3.length:Int),O3 (x0.f5.length:Int),.b false,.ret [(false,[.s .own () 1 ((bW x0.f5).map etI)])],.lp (.exit 0) (m7 q0 ByteArray.empty 0 0 0 ([]) ((id a).f0) (((id a).f1).f0) (((id a).f1).f1) ((id a).f2) b)] (AD (i7 a c)<|AV (ψ:=fun k=>E.C k 40 [.agg (GDag.t .far q0 x0)]=some [OY true]) (OU (jJ x0 d) (by rw[e]))<|ALn a.f3 GState.t<|ALn x0.f5 (GTask.t q0)<|AC h<|AV (ψ:=fun k=>E.C k 43 [.one (.s .far () 5 (x0.f5.map (GTask.t q0)))]=some [(false,[.s .own () 1 ((bW x0.f5).map etI)])]) (qD x0.f5 i j)<|AL l<|AN))
 ·exact OO (DP Tryz.f22 [.ret [(true,GRun.t .own (id a))],rF] (AD (i7 a c)<|AV (ψ:=fun k=>E.C k 40 [.agg (GDag.t .far q0 x0)]=some [OY false]) (OU (jJ x0 d) (by rw[e]))<|AN))
inductive pv where|x0 (v0_4:List GState)
def cT (q1:Kd)(a:ByteArray)(b c d:Int)(v0_4:List GState)(e f:ByteArray)(g h:Int)(i:Bool)(j:List GTask)(v9:List Int)(v10 v11:Int):US:=stL 51 [(0,.box () [tS a,tI b,tI c,tI d,.s .own () 4 (v0_4.map GState.t)]),(3,.box () [tS e,tS f,tI g,tI h,tB i,.s .far () 5 (j.map (GTask.t q1))]),(9,.one (.s .own () 1 (v9.map etI))),(10,O0 v10),(11,O0 v11)]
def jW (q1:Kd)(b:ByteArray)(c d e:Int)(a:List GState):US:=stL 51 [(0,.box () [tS b,tI c,tI d,tI e,.s .own () 4 (a.map GState.t)])]
abbrev iQ:US→Exit→US→Prop:=Round E 32 (av Tryz.f32 0)
def wr {q1:Kd}(a:ByteArray)(b c d:Int)(v0_4:List GState)(f g:ByteArray)(h i:Int)(j:Bool)(k:List GTask)(v9:List Int)(v10 v11:Int):pv→Prop| .x0 e=>Loops E 32 (av Tryz.f32 0) (cT q1 a b c d v0_4 f g h i j k v9 v10 v11) (.exit 0) (jW q1 a b c d e)
noncomputable def cq (g:ByteArray)(h j k:Int)(b c:ByteArray)(d e:Int)(f:List GTask):List Int→Nat→(List GState)→Bool→Option pv|[],i,v0_4,a=>some (.x0 v0_4)|hd::rest,i,v0_4,a=>if ae.sm (GDag.mk b c d e a f)then if aN (GDag.mk b c d e a f)=true then if(GRun.mk g (GSpan.mk h j) k v0_4).f3.length=(GDag.mk b c d e a f).f5.length then if 0≤hd∧hd<((GDag.mk b c d e a f).f5.length:Int)then cond ((aR (GDag.mk b c d e a f) (GRun.mk g (GSpan.mk h j) k v0_4) hd).2) ((am v0_4 hd).bind fun g1=>cond (g1.f0==(0:Int)) (cq g h j k b c d e f rest (i+1) (v0_4.set hd.toNat (GState.mk 4 g1.f1 g1.f2 0)) a) (cq g h j k b c d e f rest (i+1) v0_4 a)) (cq g h j k b c d e f rest (i+1) v0_4 a)else none else none else none else none
theorem wq {q1:Kd}(b:ByteArray)(c d e:Int)(f g:ByteArray)(j l:Int)(m:List GTask)(v9:List Int)(rest:List Int):∀(i:Nat)(v0_4:List GState)(a:Bool),(v9).drop i=rest→v9.length≤9223372036854775807→Ans (cq b c d e f g j l m rest i v0_4 a) (wr (q1:=q1) b c d e v0_4 f g j l a m v9 (v9.length:Int) (i:Int)):=by
 induction rest with
 |nil =>intro i v0_4 a o q;have hb:=aZ o;unfold cq;exact OO (OQ (show iQ (cT q1 b c d e v0_4 f g j l a m v9 (v9.length:Int) (i:Int)) (.exit 0) (jW q1 b c d e v0_4)from RP [.b false] (AC hb<|AN)) (by intro h;cases h))
 |cons hd rest v =>
  intro i v0_4 a o q;have hb:=aT o;have w:=aU o q;have n:=aE o;have x:=aW o;unfold cq;refine OT (fun z => ?_);refine OT (fun A => ?_);refine OT (fun B => ?_);refine OT (fun D => ?_);apply OR<;>intro F
  ·refine OS (fun g1 s => ?_);apply OR<;>intro G
   ·exact(v (i+1) (v0_4.set hd.toNat (GState.mk 4 g1.f1 g1.f2 0)) a n q).mono fun y u=>by have r:iQ (cT q1 b c d e v0_4 f g j l a m v9 (v9.length:Int) (i:Int)) .normal (cT q1 b c d e (v0_4.set hd.toNat (GState.mk 4 g1.f1 g1.f2 0)) f g j l a m v9 (v9.length:Int) (inc (i:Int))):=RP [.b true,.row (etI hd),.ret [OY ((aR (GDag.mk f g j l a m) (GRun.mk b (GSpan.mk c d) e v0_4) hd).1),OY true],.row (GState.t g1),.b true,.row (GState.t g1),.rows ((v0_4.set hd.toNat (GState.mk 4 g1.f1 g1.f2 g1.f3)).map GState.t),.row (GState.t (GState.mk 4 g1.f1 g1.f2 g1.f3)),.rows ((v0_4.set hd.toNat (GState.mk 4 g1.f1 g1.f2 0)).map GState.t)] (AC hb<|AG etI x<|AV (ψ:=fun k=>E.C k 28 [.agg (GDag.t .far q1 (GDag.mk f g j l a m)),.agg (GRun.t .far (GRun.mk b (GSpan.mk c d) e v0_4)),O0 hd,.fni 29 []]=some [OY ((aR (GDag.mk f g j l a m) (GRun.mk b (GSpan.mk c d) e v0_4) hd).1),OY true]) (OU (b9 (GDag.mk f g j l a m) (GRun.mk b (GSpan.mk c d) e v0_4) hd z A B D) (by rw[F]))<|AG GState.t s<|AC G<|AG GState.t s<|AC (p:=(v0_4.map GState.t).set (0+hd.toNat) (au (GState.t g1) 0 [tI 4])=(v0_4.set hd.toNat (GState.mk 4 g1.f1 g1.f2 g1.f3)).map GState.t) (db (by rfl))<|AC (p:=0≤hd∧hd<(((v0_4.set hd.toNat (GState.mk 4 g1.f1 g1.f2 g1.f3)).map GState.t).length:Int)) (gK (cL s))<|AC (p:=((v0_4.set hd.toNat (GState.mk 4 g1.f1 g1.f2 g1.f3)).map GState.t)[0+hd.toNat]?=some (GState.t (GState.mk 4 g1.f1 g1.f2 g1.f3))) (dg (cL s))<|AC (p:=((v0_4.set hd.toNat (GState.mk 4 g1.f1 g1.f2 g1.f3)).map GState.t).set (0+hd.toNat) (au (GState.t (GState.mk 4 g1.f1 g1.f2 g1.f3)) 3 [tI 0])=(v0_4.set hd.toNat (GState.mk 4 g1.f1 g1.f2 0)).map GState.t) (l3 (by rfl))<|AN);rw[w]at r;cases y<;>exact OP r u
   ·exact(v (i+1) v0_4 a n q).mono fun y u=>by have r:iQ (cT q1 b c d e v0_4 f g j l a m v9 (v9.length:Int) (i:Int)) .normal (cT q1 b c d e v0_4 f g j l a m v9 (v9.length:Int) (inc (i:Int))):=RP [.b true,.row (etI hd),.ret [OY ((aR (GDag.mk f g j l a m) (GRun.mk b (GSpan.mk c d) e v0_4) hd).1),OY true],.row (GState.t g1),.b false] (AC hb<|AG etI x<|AV (ψ:=fun k=>E.C k 28 [.agg (GDag.t .far q1 (GDag.mk f g j l a m)),.agg (GRun.t .far (GRun.mk b (GSpan.mk c d) e v0_4)),O0 hd,.fni 29 []]=some [OY ((aR (GDag.mk f g j l a m) (GRun.mk b (GSpan.mk c d) e v0_4) hd).1),OY true]) (OU (b9 (GDag.mk f g j l a m) (GRun.mk b (GSpan.mk c d) e v0_4) hd z A B D) (by rw[F]))<|AG GState.t s<|AC G<|AN);rw[w]at r;cases y<;>exact OP r u
  ·exact(v (i+1) v0_4 a n q).mono fun y u=>by have r:iQ (cT q1 b c d e v0_4 f g j l a m v9 (v9.length:Int) (i:Int)) .normal (cT q1 b c d e v0_4 f g j l a m v9 (v9.length:Int) (inc (i:Int))):=RP [.b true,.row (etI hd),.ret [OY ((aR (GDag.mk f g j l a m) (GRun.mk b (GSpan.mk c d) e v0_4) hd).1),OY false]] (AC hb<|AG etI x<|AV (ψ:=fun k=>E.C k 28 [.agg (GDag.t .far q1 (GDag.mk f g j l a m)),.agg (GRun.t .far (GRun.mk b (GSpan.mk c d) e v0_4)),O0 hd,.fni 29 []]=some [OY ((aR (GDag.mk f g j l a m) (GRun.mk b (GSpan.mk c d) e v0_4) hd).1),OY false]) (OU (b9 (GDag.mk f g j l a m) (GRun.mk b (GSpan.mk c d) e v0_4) hd z A B D) (by rw[F]))<|AN);rw[w]at r;cases y<;>exact OP r u
noncomputable def jl (x0:GRun)(a:GDag):Option (GRun):=
  if ae.sm a then if cG a.f5 then if(cn a).length≤9223372036854775807 then(cq x0.f0 x0.f1.f0 x0.f1.f1 x0.f2 a.f0 a.f1 a.f2 a.f3 a.f5 (cn a) 0 x0.f3 a.f4).bind fun y=>match y with
   | .x0 b=>(some ((GRun.mk x0.f0 x0.f1 x0.f2 b)))else none else none else none
theorem xA {q1:Kd}(x0:GRun)(a:GDag):Ans (jl x0 a) (fun r=>Does E 32 [.box () (GRun.t .own x0),.agg (GDag.t .far q1 a)] [(true,GRun.t .own r)]):=by
 unfold jl;refine OT (fun e => ?_);refine OT (fun f => ?_);refine OT (fun c => ?_);refine OS (fun y d => ?_);replace d:=wq (q1:=q1) x0.f0 x0.f1.f0 x0.f1.f1 x0.f2 a.f0 a.f1 a.f2 a.f3 a.f5 (cn a) (cn a) 0 x0.f3 a.f4 rfl c y d;cases y with
 |x0 b =>have g:=d;exact OO (DP Tryz.f32 [.ret [(false,[.s .own () 1 ((cn a).map etI)])],O3 ((cn a).length:Int),.lp (.exit 0) (jW q1 x0.f0 x0.f1.f0 x0.f1.f1 x0.f2 b)] (AV (ψ:=fun k=>E.C k 50 [.agg (GDag.t .far q1 a)]=some [(false,[.s .own () 1 ((cn a).map etI)])]) (sb a e f)<|ALn (cn a) etI<|AL g<|AN))
noncomputable def oy (d:GDag)(g:GRun)(k:Int)(v:List GState):List GState :=
 cond (aR d (GRun.mk g.f0 (GSpan.mk g.f1.f0 g.f1.f1) g.f2 v) k).2 (match am v k with|some x=>cond (x.f0==0) (v.set k.toNat ⟨4,x.f1,x.f2,0⟩) v|none=>v) v
noncomputable def fx (d:GDag)(g:GRun):List Int→List GState→List GState|[],v=>v|k::l,v=>fx d g l (oy d g k v)
noncomputable def ig (r:GRun)(d:GDag):GRun:=⟨r.f0,r.f1,r.f2,fx d r (bW d.f5) r.f3⟩
noncomputable def iL (d:GDag)(r:GRun):GRun:=cond (aN d&&((r.f3.length:Int)==(d.f5.length:Int))) (ig r d) r
theorem vM (d:GDag)(g:GRun)(k:Int)(v:List GState):(oy d g k v).length=v.length:=by
 unfold oy;cases(aR d (GRun.mk g.f0 (GSpan.mk g.f1.f0 g.f1.f1) g.f2 v) k).2 with
 |false=>rfl
 |true =>
  cases q:am v k with
  |none=>rfl
  |some x =>show(cond (x.f0==0) (v.set k.toNat ⟨4,x.f1,x.f2,0⟩) v).length=v.length;cases x.f0==0<;>simp
theorem xJ (d:GDag)(g:GRun):∀(l:List Int)(v:List GState),(fx d g l v).length=v.length
 |[],v=>rfl
 |k::l,v=>by unfold fx;rw[xJ d g l,vM]
theorem AP (d:GDag)(g:GRun)(h:ae.sm d)(hd:aN d=true):∀(l:List Int)(i:Nat)(v:List GState),v.length=d.f5.length→(∀x∈l,0≤x∧x<(d.f5.length:Int)) →
  dU d.f0 d.f1 d.f2 d.f3 d.f5 g.f0 g.f1.f0 g.f1.f1 g.f2 l i d.f4 v=some (.x0 (fx d g l v)) ∧
  cq g.f0 g.f1.f0 g.f1.f1 g.f2 d.f0 d.f1 d.f2 d.f3 d.f5 l i v d.f4=some (.x0 (fx d g l v))
 |[],i,v,_,_=>⟨rfl,rfl⟩
 |k::l,i,v,hv,b=>by
  have j:=b k (by simp);have e:GDag.mk d.f0 d.f1 d.f2 d.f3 d.f4 d.f5=d:=rfl;have a:(GRun.mk g.f0 (GSpan.mk g.f1.f0 g.f1.f1) g.f2 v).f3.length=d.f5.length:=hv;have m:aq d (GRun.mk g.f0 (GSpan.mk g.f1.f0 g.f1.f1) g.f2 v) k=((bE d (GRun.mk g.f0 (GSpan.mk g.f1.f0 g.f1.f1) g.f2 v) k).1,(aR d (GRun.mk g.f0 (GSpan.mk g.f1.f0 g.f1.f1) g.f2 v) k).2):=rfl;have c:=AP d g h hd l (i+1) (oy d g k v) (by rw[vM];exact hv) fun y n=>b y (by simp[n])
  obtain⟨x,f,_⟩:=eO (l:=v) (k:=k) (by omega);unfold dU cq fx;simp only[e,O6 h,O6 hd,O6 a,O6 j,m];rw[←c.1];refine⟨?_,?_⟩
  ·unfold oy;cases(aR d (GRun.mk g.f0 (GSpan.mk g.f1.f0 g.f1.f1) g.f2 v) k).2 with
   |false=>rfl
   |true =>simp only[f,O5,Pk];cases x.f0==0<;>rfl
  ·rw[←c.2];unfold oy;cases(aR d (GRun.mk g.f0 (GSpan.mk g.f1.f0 g.f1.f1) g.f2 v) k).2 with
   |false=>rfl
   |true =>simp only[f,O5,Pk];cases x.f0==0<;>rfl
theorem Ix (r:GRun)(d:GDag)(h:ae.sm d)(hd:aN d=true)(b:r.f3.length=d.f5.length):jl r d=some (ig r d):=by obtain⟨f, -, -,a,c⟩:=oz hd;have e:cn d=bW d.f5:=rfl;unfold jl;rw[O6 h,O6 a,e,c,O6 (by omega),(AP d r h hd (bW d.f5) 0 r.f3 b (wR a).2).2];rfl
theorem Gw (d:GDag)(r:GRun)(h:ae.sm d)(g:ae.sm r):mL d r=some (iL d r):=by
 unfold mL iL;rw[O6 g,O6 h];cases q:aN d with
 |false=>rfl
 |true =>
  have e:((r.f3.length:Int) != (d.f5.length:Int))= !((r.f3.length:Int)==(d.f5.length:Int)):=rfl;rw[e];cases b:((r.f3.length:Int)==(d.f5.length:Int))with
  |false=>rfl
  |true =>
   have c:r.f3.length=d.f5.length:=by rw[QM]at b;omega
   obtain⟨f, -, -,a,i⟩:=oz q;have hs:ae.sm d.f5:=h.2.2;simp only[id,Qu,Pt,Pk,PJ,O6 hs,O6 a];rw[O6 (by omega),(AP d r h q (bW d.f5) 0 r.f3 c (wR a).2).1];rfl
theorem CO {q0:Kd}(x0:GDag)(a:GRun)(h:ae.sm x0)(g:ae.sm a):Does E 22 [.agg (GDag.t .far q0 x0),.agg (GRun.t .far a)] [(true,GRun.t .own (iL x0 a))]:=by exact Dh x0 a _ (Gw x0 a h g)
theorem xx {q1:Kd}(x0:GRun)(a:GDag)(h:ae.sm a)(g:ae.sm x0)(hd:aN a=true)(b:x0.f3.length=a.f5.length):Does E 32 [.box () (GRun.t .own x0),.agg (GDag.t .far q1 a)] [(true,GRun.t .own (ig x0 a))]:=by exact xA x0 a _ (Ix x0 a h hd b)
inductive zM where|x2 (v5:List Int)
def lH (q0:Kd)(v1:Int)(v2_0 v2_1:ByteArray)(v2_2 v2_3:Int)(v2_4:Bool)(a:List GTask)(v5:List Int)(v7:Int)(v11:List Int)(b c:Int)(d:List Int)(v20 v21:Int):US:=stL 42 [(1,O0 v1),(2,.box () [tS v2_0,tS v2_1,tI v2_2,tI v2_3,tB v2_4,.s .far () 5 (a.map (GTask.t q0))]),(5,.one (.s .own () 1 (v5.map etI))),(7,O0 v7),(11,.one (.s .own () 1 (v11.map etI))),(12,O0 b),(13,O0 c),(19,.one (.s .own () 1 (d.map etI))),(20,O0 v20),(21,O0 v21)]
def lb (q0:Kd)(v1:Int)(v2_0 v2_1:ByteArray)(v2_2 v2_3:Int)(v2_4:Bool)(a:List GTask)(v11:List Int)(b c:Int)(d:List Int):US:=stL 42 [(1,O0 v1),(2,.box () [tS v2_0,tS v2_1,tI v2_2,tI v2_3,tB v2_4,.s .far () 5 (a.map (GTask.t q0))]),(5,.one (.s .own () 1 (d.map etI))),(11,.one (.s .own () 1 (v11.map etI))),(12,O0 b),(13,O0 c)]
abbrev qg:US→Exit→US→Prop:=Round E 30 (av Tryz.f30 1)
def Jg {q0:Kd}(v1:Int)(v2_0 v2_1:ByteArray)(v2_2 v2_3:Int)(v2_4:Bool)(a:List GTask)(v5:List Int)(v7:Int)(v11:List Int)(b c:Int)(d:List Int)(v20 v21:Int):zM→Prop| .x2 e=>Loops E 30 (av Tryz.f30 1) (lH q0 v1 v2_0 v2_1 v2_2 v2_3 v2_4 a v5 v7 v11 b c d v20 v21) (.exit 2) (lb q0 v1 v2_0 v2_1 v2_2 v2_3 v2_4 a v11 b c e)
noncomputable def jX (v1:Int)(v5:List Int)(v7:Int):List Int→Nat→Bool→Option zM|[],i,v2_4=>some (.x2 v5)|hd::rest,i,v2_4=>cond (hd==v1) (if(v5.length+([v7]).length)*8≤140737488355328∧v5.length+([v7]).length≤4611686018427387904 then some (.x2 (v5++([v7])))else none) (if v5.length≤1050000 then cond (cb v5 hd) (if(v5.length+([v7]).length)*8≤140737488355328∧v5.length+([v7]).length≤4611686018427387904 then some (.x2 (v5++([v7])))else none) (jX v1 v5 v7 rest (i+1) v2_4)else none)
theorem Je {q0:Kd}(v1:Int)(v2_0 v2_1:ByteArray)(v2_2 v2_3:Int)(a:List GTask)(v5:List Int)(v7:Int)(v11:List Int)(c d:Int)(b:List Int)(rest:List Int):∀(i:Nat)(v2_4:Bool),(b).drop i=rest→b.length≤9223372036854775807→Ans (jX v1 v5 v7 rest i v2_4) (Jg (q0:=q0) v1 v2_0 v2_1 v2_2 v2_3 v2_4 a v5 v7 v11 c d b (b.length:Int) (i:Int)):=by
 induction rest with
 |nil =>intro i v2_4 e g;have hb:=aZ e;unfold jX;exact OO (OQ (show qg (lH q0 v1 v2_0 v2_1 v2_2 v2_3 v2_4 a v5 v7 v11 c d b (b.length:Int) (i:Int)) (.exit 2) (lb q0 v1 v2_0 v2_1 v2_2 v2_3 v2_4 a v11 c d v5)from RP [.b false] (AC hb<|AN)) (by intro h;cases h))
 |cons hd rest o =>
  intro i v2_4 e g;have hb:=aT e;have p:=aU e g;have j:=aE e;have l:=aW e;unfold jX;apply OR<;>intro m
  ·refine OT (fun f => ?_);exact OO (OQ (show qg (lH q0 v1 v2_0 v2_1 v2_2 v2_3 v2_4 a v5 v7 v11 c d b (b.length:Int) (i:Int)) (.exit 2) (lb q0 v1 v2_0 v2_1 v2_2 v2_3 v2_4 a v11 c d (v5++([v7])))from RP [.b true,.row (etI hd),.b true,.rows ((v5++([v7])).map etI)] (AC hb<|AG etI l<|AC m<|AAp etI (fun _=>rfl) f<|AN)) (by intro h;cases h))
  ·refine OT (fun f => ?_);apply OR<;>intro n
   ·refine OT (fun q => ?_);exact OO (OQ (show qg (lH q0 v1 v2_0 v2_1 v2_2 v2_3 v2_4 a v5 v7 v11 c d b (b.length:Int) (i:Int)) (.exit 2) (lb q0 v1 v2_0 v2_1 v2_2 v2_3 v2_4 a v11 c d (v5++([v7])))from RP [.b true,.row (etI hd),.b false,rT,.rows ((v5++([v7])).map etI)] (AC hb<|AG etI l<|AC m<|AV (ψ:=fun k=>E.C k 51 [.one (.s .far () 1 (((v5.map etI).drop 0).take (v5.map etI).length)),O0 hd]=some [OY true]) (OV (by simp only[PV,PQ]) (OU (dy v5 hd f) (by rw[n])))<|AAp etI (fun _=>rfl) q<|AN)) (by intro h;cases h))
   ·exact(o (i+1) v2_4 j g).mono fun y s=>by have r:qg (lH q0 v1 v2_0 v2_1 v2_2 v2_3 v2_4 a v5 v7 v11 c d b (b.length:Int) (i:Int)) .normal (lH q0 v1 v2_0 v2_1 v2_2 v2_3 v2_4 a v5 v7 v11 c d b (b.length:Int) (inc (i:Int))):=RP [.b true,.row (etI hd),.b false,rF] (AC hb<|AG etI l<|AC m<|AV (ψ:=fun k=>E.C k 51 [.one (.s .far () 1 (((v5.map etI).drop 0).take (v5.map etI).length)),O0 hd]=some [OY false]) (OV (by simp only[PV,PQ]) (OU (dy v5 hd f) (by rw[n])))<|AN);rw[p]at r;cases y<;>exact OP r s
inductive zL where|x0 (v5:List Int)
def qh (q0:Kd)(v1:Int)(v2_0 v2_1:ByteArray)(v2_2 v2_3:Int)(v2_4:Bool)(a:List GTask)(v5 v11:List Int)(b c:Int):US:=stL 42 [(1,O0 v1),(2,.box () [tS v2_0,tS v2_1,tI v2_2,tI v2_3,tB v2_4,.s .far () 5 (a.map (GTask.t q0))]),(5,.one (.s .own () 1 (v5.map etI))),(11,.one (.s .own () 1 (v11.map etI))),(12,O0 b),(13,O0 c)]
def qU (q0:Kd)(a:List Int):US:=stL 42 [(5,.one (.s .own () 1 (a.map etI)))]
abbrev zK:US→Exit→US→Prop:=Round E 30 (av Tryz.f30 0)
def Jf {q0:Kd}(v1:Int)(v2_0 v2_1:ByteArray)(v2_2 v2_3:Int)(v2_4:Bool)(a:List GTask)(v5 v11:List Int)(b c:Int):zL→Prop| .x0 d=>Loops E 30 (av Tryz.f30 0) (qh q0 v1 v2_0 v2_1 v2_2 v2_3 v2_4 a v5 v11 b c) (.exit 0) (qU q0 d)
noncomputable def iR (v1:Int)(v2_0 v2_1:ByteArray)(v2_2 v2_3:Int)(a:List GTask):List Int→Nat→Bool→(List Int)→Option zL
 |[],i,v2_4,v5=>some (.x0 v5)
 |hd::rest,i,v2_4,v5=>if ae.sm (GDag.mk v2_0 v2_1 v2_2 v2_3 v2_4 a)then if aN (GDag.mk v2_0 v2_1 v2_2 v2_3 v2_4 a)=true then if 0≤hd∧hd<((GDag.mk v2_0 v2_1 v2_2 v2_3 v2_4 a).f5.length:Int)then if(ups (GDag.mk v2_0 v2_1 v2_2 v2_3 v2_4 a) hd).length≤9223372036854775807 then(jX v1 v5 hd (ups (GDag.mk v2_0 v2_1 v2_2 v2_3 v2_4 a) hd) 0 v2_4).bind fun y=>match y with
  | .x2 b=>(iR v1 v2_0 v2_1 v2_2 v2_3 a rest (i+1) v2_4 b)else none else none else none else none
theorem Jd {q0:Kd}(v1:Int)(v2_0 v2_1:ByteArray)(v2_2 v2_3:Int)(a:List GTask)(v11:List Int)(rest:List Int):∀(i:Nat)(v2_4:Bool)(v5:List Int),(v11).drop i=rest→v11.length≤9223372036854775807→Ans (iR v1 v2_0 v2_1 v2_2 v2_3 a rest i v2_4 v5) (Jf (q0:=q0) v1 v2_0 v2_1 v2_2 v2_3 v2_4 a v5 v11 (v11.length:Int) (i:Int)):=by
 induction rest with
 |nil =>intro i v2_4 v5 c e;have hb:=aZ c;unfold iR;exact OO (OQ (show zK (qh q0 v1 v2_0 v2_1 v2_2 v2_3 v2_4 a v5 v11 (v11.length:Int) (i:Int)) (.exit 0) (qU q0 v5)from RP [.b false] (AC hb<|AN)) (by intro h;cases h))
 |cons hd rest j =>
  intro i v2_4 v5 c e;have hb:=aT c;have l:=aU c e;have f:=aE c;have m:=aW c;unfold iR;refine OT (fun n => ?_);refine OT (fun o => ?_);refine OT (fun p => ?_);refine OT (fun g => ?_);refine OS (fun y d => ?_);replace d:=Je (q0:=q0) v1 v2_0 v2_1 v2_2 v2_3 a v5 hd v11 (v11.length:Int) (i:Int) (ups (GDag.mk v2_0 v2_1 v2_2 v2_3 v2_4 a) hd) (ups (GDag.mk v2_0 v2_1 v2_2 v2_3 v2_4 a) hd) 0 v2_4 rfl g y d;cases y with
  |x2 b =>have q:=d;exact(j (i+1) v2_4 b f e).mono fun y d=>by have r:zK (qh q0 v1 v2_0 v2_1 v2_2 v2_3 v2_4 a v5 v11 (v11.length:Int) (i:Int)) .normal (qh q0 v1 v2_0 v2_1 v2_2 v2_3 v2_4 a b v11 (v11.length:Int) (inc (i:Int))):=RP [.b true,.row (etI hd),.ret [(false,[.s .own () 1 ((ups (GDag.mk v2_0 v2_1 v2_2 v2_3 v2_4 a) hd).map etI)])],O3 ((ups (GDag.mk v2_0 v2_1 v2_2 v2_3 v2_4 a) hd).length:Int),.lp (.exit 2) (lb q0 v1 v2_0 v2_1 v2_2 v2_3 v2_4 a v11 (v11.length:Int) (i:Int) b)] (AC hb<|AG etI m<|AV (ψ:=fun k=>E.C k 49 [.agg (GDag.t .far q0 (GDag.mk v2_0 v2_1 v2_2 v2_3 v2_4 a)),O0 hd]=some [(false,[.s .own () 1 ((ups (GDag.mk v2_0 v2_1 v2_2 v2_3 v2_4 a) hd).map etI)])]) (AI (GDag.mk v2_0 v2_1 v2_2 v2_3 v2_4 a) hd n o p)<|ALn (ups (GDag.mk v2_0 v2_1 v2_2 v2_3 v2_4 a) hd) etI<|AL q<|AN);rw[l]at r;cases y<;>exact OP r d
noncomputable def nl (x0:GDag)(b:Int):Option ((List Int)):=
  if ae.sm x0 then if cG x0.f5 then if(cn x0).length≤9223372036854775807 then(iR b x0.f0 x0.f1 x0.f2 x0.f3 x0.f5 (cn x0) 0 x0.f4 ([])).bind fun y=>match y with
   | .x0 a=>(if a.length<4611686018427387904 then some (cJ a)else none)else none else none else none
theorem KG {q0:Kd}(x0:GDag)(b:Int):Ans (nl x0 b) (fun r=>Does E 30 [.agg (GDag.t .far q0 x0),O0 b] [(false,[.s .own () 1 (r.map etI)])]):=by
 unfold nl;refine OT (fun e => ?_);refine OT (fun f => ?_);refine OT (fun c => ?_);refine OS (fun y d => ?_);replace d:=Jd (q0:=q0) b x0.f0 x0.f1 x0.f2 x0.f3 x0.f5 (cn x0) (cn x0) 0 x0.f4 ([]) rfl c y d;cases y with
 |x0 a =>have g:=d;refine OT (fun h => ?_);exact OO (DP Tryz.f30 [.ret [(false,[.s .own () 1 ((cn x0).map etI)])],O3 ((cn x0).length:Int),.lp (.exit 0) (qU q0 a),.ret [(false,[.s .own () 1 ((cJ a).map etI)])]] (AV (ψ:=fun k=>E.C k 50 [.agg (GDag.t .far q0 x0)]=some [(false,[.s .own () 1 ((cn x0).map etI)])]) (sb x0 e f)<|ALn (cn x0) etI<|AL g<|AC (p:=(a.map etI).length=(a.map etI).length) rfl<|AV (ψ:=fun k=>E.C k 52 [.one (.s .own () 1 (a.map etI))]=some [(false,[.s .own () 1 ((cJ a).map etI)])]) (mb a h)<|AN))
inductive w9 where|x4 (v5:List Int)
def dH (q0:Kd)(v5:List Int)(v7:List Bool)(v11:Int):US:=stL 96 [(5,.one (.s .own () 1 (v5.map etI))),(7,.one (.s .own () 1 (v7.map etB))),(11,O0 v11)]
def lV (q0:Kd)(a:List Int):US:=stL 96 [(5,.one (.s .own () 1 (a.map etI)))]
abbrev jA:US→Exit→US→Prop:=Round E 20 (av Tryz.f20 2)
def FS {q0:Kd}(v5:List Int)(v7:List Bool)(v11:Int):w9→Prop| .x4 a=>Loops E 20 (av Tryz.f20 2) (dH q0 v5 v7 v11) (.exit 4) (lV q0 a)
theorem By {q0:Kd}(v5:List Int)(v7:List Bool)(v11:Int)(a:Bool)(c:(decide (v11<(v7.length:Int)))=true)(b:am v7 v11=some a)(d:a=true)(e:(v5.length+([v11]).length)*8≤140737488355328∧v5.length+([v11]).length≤4611686018427387904):jA (dH q0 v5 v7 v11) .normal (dH q0 (v5++([v11])) v7 (inc v11)):=
 RP [O3 (v7.length:Int),.b true,.row ([tB true]),.rows ((v5++([v11])).map etI)] (ALn v7 etB<|AC c<|AC (p:=0≤v11∧v11<((v7.map etB).length:Int)) (gK b)<|AC (p:=(v7.map etB)[0+v11.toNat]?=some ([tB true])) ((dg b).trans (Pw some (show [tB a]=[tB true] by rw[d])))<|AAp etI (fun _=>rfl) e<|AN)
theorem Bz {q0:Kd}(v5:List Int)(v7:List Bool)(v11:Int)(a:Bool)(c:(decide (v11<(v7.length:Int)))=true)(b:am v7 v11=some a)(d:a=false):jA (dH q0 v5 v7 v11) .normal (dH q0 v5 v7 (inc v11)):=
 RP [O3 (v7.length:Int),.b true,.row ([tB false])] (ALn v7 etB<|AC c<|AC (p:=0≤v11∧v11<((v7.map etB).length:Int)) (gK b)<|AC (p:=(v7.map etB)[0+v11.toNat]?=some ([tB false])) ((dg b).trans (Pw some (show [tB a]=[tB false] by rw[d])))<|AN)
theorem BA {q0:Kd}(v5:List Int)(v7:List Bool)(v11:Int)(a:(decide (v11<(v7.length:Int)))=false):jA (dH q0 v5 v7 v11) (.exit 4) (lV q0 v5):=
 RP [O3 (v7.length:Int),.b false] (ALn v7 etB<|AC a<|AN)
noncomputable def gd  : List Bool→Nat→(List Int)→Option w9|[],i,v5=>some (.x4 v5)|hd::rest,i,v5=>cond (hd) (if(v5.length+([(i:Int)]).length)*8≤140737488355328∧v5.length+([(i:Int)]).length≤4611686018427387904 then gd rest (i+1) (v5++([(i:Int)]))else none) (gd rest (i+1) v5)
theorem FQ {q0:Kd}(v7:List Bool)(rest:List Bool):∀(i:Nat)(v5:List Int),(v7).drop i=rest→v7.length≤9223372036854775807→Ans (gd rest i v5) (FS (q0:=q0) v5 v7 (i:Int)):=by
 induction rest with
 |nil =>intro i v5 a c;have hb:=aZ a;unfold gd;exact OO (OQ (show jA (dH q0 v5 v7 (i:Int)) (.exit 4) (lV q0 v5)from BA (q0:=q0) v5 v7 (i:Int) hb) (by intro h;cases h))
 |cons hd rest e =>
  intro i v5 a c;have hb:=aT a;have f:=aU a c;have b:=aE a;have g:=aW a;unfold gd;apply OR<;>intro j
  ·refine OT (fun k => ?_);exact(e (i+1) (v5++([(i:Int)])) b c).mono fun y d=>by have r:jA (dH q0 v5 v7 (i:Int)) .normal (dH q0 (v5++([(i:Int)])) v7 (inc (i:Int))):=By (q0:=q0) v5 v7 (i:Int) hd hb g j k;rw[f]at r;cases y<;>exact OP r d
  ·exact(e (i+1) v5 b c).mono fun y d=>by have r:jA (dH q0 v5 v7 (i:Int)) .normal (dH q0 v5 v7 (inc (i:Int))):=Bz (q0:=q0) v5 v7 (i:Int) hd hb g j;rw[f]at r;cases y<;>exact OP r d
inductive w8 where|x2 (v7:List Bool)
def ce (q0:Kd)(v1:Int)(v2_0 v2_1:ByteArray)(v2_2 v2_3:Int)(v2_4:Bool)(a:List GTask)(v5 v6:List Int)(v7:List Bool)(v8:Int)(v9:List Int)(v10:Int):US:=stL 96 [(1,O0 v1),(2,.box () [tS v2_0,tS v2_1,tI v2_2,tI v2_3,tB v2_4,.s .far () 5 (a.map (GTask.t q0))]),(5,.one (.s .own () 1 (v5.map etI))),(6,.one (.s .own () 1 (v6.map etI))),(7,.one (.s .own () 1 (v7.map etB))),(8,O0 v8),(9,.one (.s .own () 1 (v9.map etI))),(10,O0 v10)]
def lU (q0:Kd)(v1:Int)(v2_0 v2_1:ByteArray)(v2_2 v2_3:Int)(v2_4:Bool)(a:List GTask)(v5 v6:List Int)(v8:Int)(b:List Bool):US:=stL 96 [(1,O0 v1),(2,.box () [tS v2_0,tS v2_1,tI v2_2,tI v2_3,tB v2_4,.s .far () 5 (a.map (GTask.t q0))]),(5,.one (.s .own () 1 (v5.map etI))),(6,.one (.s .own () 1 (v6.map etI))),(7,.one (.s .own () 1 (b.map etB))),(8,O0 v8)]
abbrev fZ:US→Exit→US→Prop:=Round E 20 (av Tryz.f20 1)
def w6 {q0:Kd}(v1:Int)(v2_0 v2_1:ByteArray)(v2_2 v2_3:Int)(v2_4:Bool)(a:List GTask)(v5 v6:List Int)(v7:List Bool)(v8:Int)(v9:List Int)(v10:Int):w8→Prop| .x2 b=>Loops E 20 (av Tryz.f20 1) (ce q0 v1 v2_0 v2_1 v2_2 v2_3 v2_4 a v5 v6 v7 v8 v9 v10) (.exit 2) (lU q0 v1 v2_0 v2_1 v2_2 v2_3 v2_4 a v5 v6 v8 b)
theorem Bu {q0:Kd}(v1:Int)(v2_0 v2_1:ByteArray)(v2_2 v2_3:Int)(v2_4:Bool)(b:List GTask)(v5 v6:List Int)(v7:List Bool)(v8:Int)(v9:List Int)(v10 a:Int)(g1:Bool)(e:(decide (v10<(v9.length:Int)))=true)(d:am v6 v8=some a)(c:am v7 a=some g1)(f:g1=true):fZ (ce q0 v1 v2_0 v2_1 v2_2 v2_3 v2_4 b v5 v6 v7 v8 v9 v10) .normal (ce q0 v1 v2_0 v2_1 v2_2 v2_3 v2_4 b v5 v6 (v7.set a.toNat true) v8 v9 (inc v10)):=
 RP [O3 (v9.length:Int),.b true,.row (etI a),.row (etI a),.row ([tB true]),.row (etB g1),.rows ((v7.set a.toNat true).map etB)] (ALn v9 etI<|AC e<|AG etI d<|AG etI d<|AC (p:=0≤a∧a<((v7.map etB).length:Int)) (gK c)<|AC (p:=(v7.map etB)[0+a.toNat]?=some ([tB true])) ((dg c).trans (Pw some (show [tB g1]=[tB true] by rw[f])))<|AG etB c<|AC (p:=(v7.map etB).set (0+a.toNat) (au (etB g1) 0 [tB true])=(v7.set a.toNat true).map etB) (db (by rfl))<|AN)
theorem Bv {q0:Kd}(v1:Int)(v2_0 v2_1:ByteArray)(v2_2 v2_3:Int)(v2_4:Bool)(b:List GTask)(v5 v6:List Int)(v7:List Bool)(v8:Int)(v9:List Int)(v10 a:Int)(g1:Bool)(c:Int)(f:(decide (v10<(v9.length:Int)))=true)(e:am v6 v8=some a)(d:am v7 a=some g1)(g:g1=false)(h:am v9 v10=some c)(i:(c==v1)=true):fZ (ce q0 v1 v2_0 v2_1 v2_2 v2_3 v2_4 b v5 v6 v7 v8 v9 v10) .normal (ce q0 v1 v2_0 v2_1 v2_2 v2_3 v2_4 b v5 v6 (v7.set a.toNat true) v8 v9 (inc v10)):=
 RP [O3 (v9.length:Int),.b true,.row (etI a),.row (etI a),.row ([tB false]),.row (etI c),.b true,.row (etB g1),.rows ((v7.set a.toNat true).map etB)] (ALn v9 etI<|AC f<|AG etI e<|AG etI e<|AC (p:=0≤a∧a<((v7.map etB).length:Int)) (gK d)<|AC (p:=(v7.map etB)[0+a.toNat]?=some ([tB false])) ((dg d).trans (Pw some (show [tB g1]=[tB false] by rw[g])))<|AG etI h<|AC i<|AG etB d<|AC (p:=(v7.map etB).set (0+a.toNat) (au (etB g1) 0 [tB true])=(v7.set a.toNat true).map etB) (db (by rfl))<|AN)
theorem Bw {q0:Kd}(v1:Int)(v2_0 v2_1:ByteArray)(v2_2 v2_3:Int)(v2_4:Bool)(b:List GTask)(v5 v6:List Int)(v7:List Bool)(v8:Int)(v9:List Int)(v10 a:Int)(g1:Bool)(c:Int)(g3:Bool)(g:(decide (v10<(v9.length:Int)))=true)(e:am v6 v8=some a)(d:am v7 a=some g1)(h:g1=false)(f:am v9 v10=some c)(i:(c==v1)=false)(j:am v7 c=some g3):fZ (ce q0 v1 v2_0 v2_1 v2_2 v2_3 v2_4 b v5 v6 v7 v8 v9 v10) .normal (ce q0 v1 v2_0 v2_1 v2_2 v2_3 v2_4 b v5 v6 (v7.set a.toNat g3) v8 v9 (inc v10)):=
 RP [O3 (v9.length:Int),.b true,.row (etI a),.row (etI a),.row ([tB false]),.row (etI c),.b false,.row (etI c),.row (etB g3),.row (etB g1),.rows ((v7.set a.toNat g3).map etB)] (ALn v9 etI<|AC g<|AG etI e<|AG etI e<|AC (p:=0≤a∧a<((v7.map etB).length:Int)) (gK d)<|AC (p:=(v7.map etB)[0+a.toNat]?=some ([tB false])) ((dg d).trans (Pw some (show [tB g1]=[tB false] by rw[h])))<|AG etI f<|AC i<|AG etI f<|AG etB j<|AG etB d<|AC (p:=(v7.map etB).set (0+a.toNat) (au (etB g1) 0 [tB g3])=(v7.set a.toNat g3).map etB) (db (by rfl))<|AN)
theorem Bx {q0:Kd}(v1:Int)(v2_0 v2_1:ByteArray)(v2_2 v2_3:Int)(v2_4:Bool)(a:List GTask)(v5 v6:List Int)(v7:List Bool)(v8:Int)(v9:List Int)(v10:Int)(b:(decide (v10<(v9.length:Int)))=false):fZ (ce q0 v1 v2_0 v2_1 v2_2 v2_3 v2_4 a v5 v6 v7 v8 v9 v10) (.exit 2) (lU q0 v1 v2_0 v2_1 v2_2 v2_3 v2_4 a v5 v6 v8 v7):=
 RP [O3 (v9.length:Int),.b false] (ALn v9 etI<|AC b<|AN)
noncomputable def ez (v1:Int)(v6:List Int)(v8:Int):List Int→Nat→Bool→(List Bool)→Option w8|[],i,v2_4,v7=>some (.x2 v7)|hd::rest,i,v2_4,v7=>(am v6 v8).bind fun a=>(am v7 a).bind fun g1=>cond (g1) (ez v1 v6 v8 rest (i+1) v2_4 (v7.set a.toNat true)) (cond (hd==v1) (ez v1 v6 v8 rest (i+1) v2_4 (v7.set a.toNat true)) ((am v7 hd).bind fun g3=>ez v1 v6 v8 rest (i+1) v2_4 (v7.set a.toNat g3)))
theorem FP {q0:Kd}(v1:Int)(v2_0 v2_1:ByteArray)(v2_2 v2_3:Int)(a:List GTask)(v5 v6:List Int)(v8:Int)(v9:List Int)(rest:List Int):∀(i:Nat)(v2_4:Bool)(v7:List Bool),(v9).drop i=rest→v9.length≤9223372036854775807→Ans (ez v1 v6 v8 rest i v2_4 v7) (w6 (q0:=q0) v1 v2_0 v2_1 v2_2 v2_3 v2_4 a v5 v6 v7 v8 v9 (i:Int)):=by
 induction rest with
 |nil =>intro i v2_4 v7 d e;have hb:=aZ d;unfold ez;exact OO (OQ (show fZ (ce q0 v1 v2_0 v2_1 v2_2 v2_3 v2_4 a v5 v6 v7 v8 v9 (i:Int)) (.exit 2) (lU q0 v1 v2_0 v2_1 v2_2 v2_3 v2_4 a v5 v6 v8 v7)from Bx (q0:=q0) v1 v2_0 v2_1 v2_2 v2_3 v2_4 a v5 v6 v7 v8 v9 (i:Int) hb) (by intro h;cases h))
 |cons hd rest g =>
  intro i v2_4 v7 d e;have hb:=aT d;have j:=aU d e;have c:=aE d;have n:=aW d;unfold ez;refine OS (fun b k => ?_);refine OS (fun g1 l => ?_);apply OR<;>intro m
  ·exact(g (i+1) v2_4 (v7.set b.toNat true) c e).mono fun y f=>by have r:fZ (ce q0 v1 v2_0 v2_1 v2_2 v2_3 v2_4 a v5 v6 v7 v8 v9 (i:Int)) .normal (ce q0 v1 v2_0 v2_1 v2_2 v2_3 v2_4 a v5 v6 (v7.set b.toNat true) v8 v9 (inc (i:Int))):=Bu (q0:=q0) v1 v2_0 v2_1 v2_2 v2_3 v2_4 a v5 v6 v7 v8 v9 (i:Int) b g1 hb k l m;rw[j]at r;cases y<;>exact OP r f
  ·apply OR<;>intro o
   ·exact(g (i+1) v2_4 (v7.set b.toNat true) c e).mono fun y f=>by have r:fZ (ce q0 v1 v2_0 v2_1 v2_2 v2_3 v2_4 a v5 v6 v7 v8 v9 (i:Int)) .normal (ce q0 v1 v2_0 v2_1 v2_2 v2_3 v2_4 a v5 v6 (v7.set b.toNat true) v8 v9 (inc (i:Int))):=Bv (q0:=q0) v1 v2_0 v2_1 v2_2 v2_3 v2_4 a v5 v6 v7 v8 v9 (i:Int) b g1 hd hb k l m n o;rw[j]at r;cases y<;>exact OP r f
   ·refine OS (fun g3 p => ?_);exact(g (i+1) v2_4 (v7.set b.toNat g3) c e).mono fun y f=>by have r:fZ (ce q0 v1 v2_0 v2_1 v2_2 v2_3 v2_4 a v5 v6 v7 v8 v9 (i:Int)) .normal (ce q0 v1 v2_0 v2_1 v2_2 v2_3 v2_4 a v5 v6 (v7.set b.toNat g3) v8 v9 (inc (i:Int))):=Bw (q0:=q0) v1 v2_0 v2_1 v2_2 v2_3 v2_4 a v5 v6 v7 v8 v9 (i:Int) b g1 hd g3 hb k l m n o p;rw[j]at r;cases y<;>exact OP r f
inductive w7 where|x0 (v7:List Bool)
def ir (q0:Kd)(v1:Int)(v2_0 v2_1:ByteArray)(v2_2 v2_3:Int)(v2_4:Bool)(a:List GTask)(v5 v6:List Int)(v7:List Bool)(v8:Int):US:=stL 96 [(1,O0 v1),(2,.box () [tS v2_0,tS v2_1,tI v2_2,tI v2_3,tB v2_4,.s .far () 5 (a.map (GTask.t q0))]),(5,.one (.s .own () 1 (v5.map etI))),(6,.one (.s .own () 1 (v6.map etI))),(7,.one (.s .own () 1 (v7.map etB))),(8,O0 v8)]
def lT (q0:Kd)(v5:List Int)(a:List Bool):US:=stL 96 [(5,.one (.s .own () 1 (v5.map etI))),(7,.one (.s .own () 1 (a.map etB)))]
abbrev oh:US→Exit→US→Prop:=Round E 20 (av Tryz.f20 0)
def FR {q0:Kd}(v1:Int)(v2_0 v2_1:ByteArray)(v2_2 v2_3:Int)(v2_4:Bool)(a:List GTask)(v5 v6:List Int)(v7:List Bool)(v8:Int):w7→Prop| .x0 b=>Loops E 20 (av Tryz.f20 0) (ir q0 v1 v2_0 v2_1 v2_2 v2_3 v2_4 a v5 v6 v7 v8) (.exit 0) (lT q0 v5 b)
theorem Bs {q0:Kd}(v1:Int)(v2_0 v2_1:ByteArray)(v2_2 v2_3:Int)(v2_4:Bool)(a:List GTask)(v5 v6:List Int)(v7:List Bool)(v8 c:Int)(b:List Bool)(d:(decide (v8<(v6.length:Int)))=true)(e:am v6 v8=some c)(f:ae.sm (GDag.mk v2_0 v2_1 v2_2 v2_3 v2_4 a))(g:aN (GDag.mk v2_0 v2_1 v2_2 v2_3 v2_4 a)=true)(h:0≤c∧c<((GDag.mk v2_0 v2_1 v2_2 v2_3 v2_4 a).f5.length:Int))(i:w6 (q0:=q0) v1 v2_0 v2_1 v2_2 v2_3 v2_4 a v5 v6 v7 v8 (ups (GDag.mk v2_0 v2_1 v2_2 v2_3 v2_4 a) c) 0 (.x2 b)):oh (ir q0 v1 v2_0 v2_1 v2_2 v2_3 v2_4 a v5 v6 v7 v8) .normal (ir q0 v1 v2_0 v2_1 v2_2 v2_3 v2_4 a v5 v6 b (inc v8)):=
 RP [O3 (v6.length:Int),.b true,.row (etI c),.ret [(false,[.s .own () 1 ((ups (GDag.mk v2_0 v2_1 v2_2 v2_3 v2_4 a) c).map etI)])],.lp (.exit 2) (lU q0 v1 v2_0 v2_1 v2_2 v2_3 v2_4 a v5 v6 v8 b)] (ALn v6 etI<|AC d<|AG etI e<|AV (ψ:=fun k=>E.C k 42 [.agg (GDag.t .far q0 (GDag.mk v2_0 v2_1 v2_2 v2_3 v2_4 a)),O0 c]=some [(false,[.s .own () 1 ((ups (GDag.mk v2_0 v2_1 v2_2 v2_3 v2_4 a) c).map etI)])]) (zf (GDag.mk v2_0 v2_1 v2_2 v2_3 v2_4 a) c f g h)<|AL i<|AN)
theorem Bt {q0:Kd}(v1:Int)(v2_0 v2_1:ByteArray)(v2_2 v2_3:Int)(v2_4:Bool)(a:List GTask)(v5 v6:List Int)(v7:List Bool)(v8:Int)(b:(decide (v8<(v6.length:Int)))=false):oh (ir q0 v1 v2_0 v2_1 v2_2 v2_3 v2_4 a v5 v6 v7 v8) (.exit 0) (lT q0 v5 v7):=
 RP [O3 (v6.length:Int),.b false] (ALn v6 etI<|AC b<|AN)
noncomputable def ga (v1:Int)(v2_0 v2_1:ByteArray)(v2_2 v2_3:Int)(a:List GTask)(v6:List Int):List Int→Nat→Bool→(List Bool)→Option w7
 |[],i,v2_4,v7=>some (.x0 v7)
 |hd::rest,i,v2_4,v7=>if ae.sm (GDag.mk v2_0 v2_1 v2_2 v2_3 v2_4 a)then if aN (GDag.mk v2_0 v2_1 v2_2 v2_3 v2_4 a)=true then if 0≤hd∧hd<((GDag.mk v2_0 v2_1 v2_2 v2_3 v2_4 a).f5.length:Int)then if(ups (GDag.mk v2_0 v2_1 v2_2 v2_3 v2_4 a) hd).length≤9223372036854775807 then(ez v1 v6 (i:Int) (ups (GDag.mk v2_0 v2_1 v2_2 v2_3 v2_4 a) hd) 0 v2_4 v7).bind fun y=>match y with
  | .x2 b=>(ga v1 v2_0 v2_1 v2_2 v2_3 a v6 rest (i+1) v2_4 b)else none else none else none else none
theorem FO {q0:Kd}(v1:Int)(v2_0 v2_1:ByteArray)(v2_2 v2_3:Int)(a:List GTask)(v5 v6:List Int)(rest:List Int):∀(i:Nat)(v2_4:Bool)(v7:List Bool),(v6).drop i=rest→v6.length≤9223372036854775807→Ans (ga v1 v2_0 v2_1 v2_2 v2_3 a v6 rest i v2_4 v7) (FR (q0:=q0) v1 v2_0 v2_1 v2_2 v2_3 v2_4 a v5 v6 v7 (i:Int)):=by
 induction rest with
 |nil =>intro i v2_4 v7 c e;have hb:=aZ c;unfold ga;exact OO (OQ (show oh (ir q0 v1 v2_0 v2_1 v2_2 v2_3 v2_4 a v5 v6 v7 (i:Int)) (.exit 0) (lT q0 v5 v7)from Bt (q0:=q0) v1 v2_0 v2_1 v2_2 v2_3 v2_4 a v5 v6 v7 (i:Int) hb) (by intro h;cases h))
 |cons hd rest j =>
  intro i v2_4 v7 c e;have hb:=aT c;have k:=aU c e;have f:=aE c;have l:=aW c;unfold ga;refine OT (fun m => ?_);refine OT (fun n => ?_);refine OT (fun o => ?_);refine OT (fun g => ?_);refine OS (fun y d => ?_);replace d:=FP (q0:=q0) v1 v2_0 v2_1 v2_2 v2_3 a v5 v6 (i:Int) (ups (GDag.mk v2_0 v2_1 v2_2 v2_3 v2_4 a) hd) (ups (GDag.mk v2_0 v2_1 v2_2 v2_3 v2_4 a) hd) 0 v2_4 v7 rfl g y d;cases y with
  |x2 b =>have p:=d;exact(j (i+1) v2_4 b f e).mono fun y d=>by have r:oh (ir q0 v1 v2_0 v2_1 v2_2 v2_3 v2_4 a v5 v6 v7 (i:Int)) .normal (ir q0 v1 v2_0 v2_1 v2_2 v2_3 v2_4 a v5 v6 b (inc (i:Int))):=Bs (q0:=q0) v1 v2_0 v2_1 v2_2 v2_3 v2_4 a v5 v6 v7 (i:Int) hd b hb l m n o p;rw[k]at r;cases y<;>exact OP r d
noncomputable def jf (x0:GDag)(c:Int):Option ((List Int)):=
  if ae.sm x0 then cond (aN x0)
   (cond (ah c 0 (IntKind.wrap .i64 ((x0.f5.length:Int)-(1:Int))))
    (if ae.sm x0.f5 then if cG x0.f5 then if 0≤(x0.f5.length:Int)∧(x0.f5.length:Int)≤(x0.f5.length:Int)∧((1:Nat):Int)*(x0.f5.length:Int)≤281474976710656∧(x0.f5.length:Int)≤4611686018427387904 then if(bW x0.f5).length≤9223372036854775807 then(ga c x0.f0 x0.f1 x0.f2 x0.f3 x0.f5 (bW x0.f5) (bW x0.f5) 0 x0.f4 (List.replicate (x0.f5.length:Int).toNat false)).bind fun y=>match y with
     | .x0 a=>(if a.length≤9223372036854775807 then(gd a 0 ([])).bind fun y=>match y with
      | .x4 b=>(some (b))else none)else none else none else none else none)
    (some (([]:List Int))))
   (some (([]:List Int)))else none
theorem Hp {q0:Kd}(x0:GDag)(c:Int):Ans (jf x0 c) (fun r=>Does E 20 [.agg (GDag.t .far q0 x0),O0 c] [(false,[.s .own () 1 (r.map etI)])]):=by
 unfold jf;refine OT (fun e => ?_);apply OR<;>intro f
 ·apply OR<;>intro i
  ·refine OT (fun j => ?_);refine OT (fun l => ?_);refine OT (fun m => ?_);refine OT (fun g => ?_);refine OS (fun y b => ?_);replace b:=FO (q0:=q0) c x0.f0 x0.f1 x0.f2 x0.f3 x0.f5 ([]) (bW x0.f5) (bW x0.f5) 0 x0.f4 (List.replicate (x0.f5.length:Int).toNat false) rfl g y b;cases y with
   |x0 a =>
    have n:=b;refine OT (fun h => ?_);refine OS (fun y b => ?_);replace b:=FQ (q0:=q0) a a 0 ([]) rfl h y b;cases y with
    |x4 d =>have o:=b;exact OO (DP Tryz.f20 [rT,O3 (x0.f5.length:Int),rT,.ret [(false,[.s .own () 1 ((bW x0.f5).map etI)])],O3 (x0.f5.length:Int),.rows ((List.replicate (x0.f5.length:Int).toNat false).map etB),.lp (.exit 0) (lT q0 ([]) a),.lp (.exit 4) (lV q0 d)] (AV (ψ:=fun k=>E.C k 40 [.agg (GDag.t .far q0 x0)]=some [OY true]) (OU (jJ x0 e) (by rw[f]))<|ALn x0.f5 (GTask.t q0)<|AD (OW (ai c 0 (IntKind.wrap .i64 ((x0.f5.length:Int)-(1:Int)))) i)<|AV (ψ:=fun k=>E.C k 43 [.one (.s .far () 5 (x0.f5.map (GTask.t q0)))]=some [(false,[.s .own () 1 ((bW x0.f5).map etI)])]) (qD x0.f5 j l)<|ALn x0.f5 (GTask.t q0)<|AC m<|AC (p:=List.replicate (x0.f5.length:Int).toNat [tB false]=(List.replicate (x0.f5.length:Int).toNat false).map etB) (py rfl)<|AL n<|AL o<|AN))
  ·exact OO (DP Tryz.f20 [rT,O3 (x0.f5.length:Int),rF] (AV (ψ:=fun k=>E.C k 40 [.agg (GDag.t .far q0 x0)]=some [OY true]) (OU (jJ x0 e) (by rw[f]))<|ALn x0.f5 (GTask.t q0)<|AD (OW (ai c 0 (IntKind.wrap .i64 ((x0.f5.length:Int)-(1:Int)))) i)<|AN))
 ·exact OO (DP Tryz.f20 [rF] (AV (ψ:=fun k=>E.C k 40 [.agg (GDag.t .far q0 x0)]=some [OY false]) (OU (jJ x0 e) (by rw[f]))<|AN))
theorem Ig {v:List Bool}{k:Nat}{b:Bool}(c:k<v.length)(x:Int)(a:0≤x):am (v.set k b) x=if x=(k:Int)then some b else am v x:=by
 unfold am;rw[O6 a,R4];by_cases e:x=(k:Int)
 ·rw[O6 (by omega),O6 (by omega),O6 e]
 ·rw[Pj (by omega),Pj e,O6 a]
def below (i:Int)(a:List Int)(l:List Int):Bool:=l.any fun u=>u==i ||cb a u
theorem HV (i:Int)(o:List Int)(p:Int)(k n:Nat)(s:am o p=some (k:Int))(a:List Int)(v:List Bool)(h:Marks 0 ((n:Int)-1) v a)(A:k<n)(d:(k:Int)∉a):∀(l:List Int)(j:Nat)(z b:Bool),(∀x∈l,0≤x∧x<(n:Int)) →
  ez i o p l j z (v.set k b)=some (.x2 (v.set k (b ||below i a l)))
 |[],j,z,b,_=>by unfold ez below;simp
 |x::l,j,z,b,t=>by
  have B:=t x (by simp);have hv:=h.1;have u:=Ig (v:=v) (b:=b) (by omega:k<v.length) (k:Int) (by omega);rw[O6 rfl]at u;have g:=fun f=>HV i o p k n s a v h A d l (j+1) z f fun y C=>t y (by simp[C])
  have ss:∀f,(v.set k b).set (k:Int).toNat f=v.set k f:=fun f=>by rw[show(k:Int).toNat=k by omega,R6]
  unfold ez;rw[s,O5,u,O5,ss];cases b with
  |true=>rw[Pk,g];simp[below]
  |false =>
   rw[Pt];cases q:x==i with
   |true=>rw[Pk,g];simp[below,q]
   |false =>
    rw[Pt,Ig (by omega) x B.1];have hb:below i a (x::l)=(cb a x ||below i a l):=by unfold below;rw[Rv,q,Rf]
    by_cases e:x=(k:Int)
    ·have:cb a x=false:=by rw[←Q1,oD,e];exact d
     rw[O6 e,O5,ss,g,hb,this];rfl
    ·obtain⟨c,hc,_⟩:=eO (l:=v) (k:=x) (by omega);have m:=(jO hc).2;have r:=h.2.2 x.toNat (by omega);rw[show((x.toNat:Nat):Int)=x by omega,m]at r;have:cb a x=c:=by
      cases c with
      |true=>exact oD.2 (r.1 rfl)
      |false=>rw[←Q1,oD];exact fun w=>by have:=r.2 w;cases this
     rw[Pj e,hc,O5,ss,g,hb,this,Rf]
theorem HU (i k:Int)(a:List Int)(b:a.length≤1000):∀(l:List Int)(j:Nat)(z:Bool),jX i a k l j z=some (.x2 (cond (below i a l) (a++[k]) a))
 |[],j,z=>rfl
 |x::l,j,z=>by
  have c:=HU i k a b l (j+1) z;have hb:below i a (x::l)=((x==i ||cb a x)||below i a l):=by unfold below;rw[Rv]
  unfold jX;rw[hb];cases x==i with
  |true=>rw[Pk,O6 (by simp;omega)];rfl
  |false =>
   rw[Pt,O6 (by omega)];cases cb a x with
   |true=>rw[Pk,O6 (by simp;omega)];rfl
   |false=>rw[Pt,c];rfl
theorem vQ (d:GDag)(h:ae.sm d)(hd:aN d=true)(i:Int)(o:List Int)(G:o.Nodup)(H:∀x∈o,0≤x∧x<(d.f5.length:Int))(A:o.length≤4):∀(l:List Int)(j:Nat)(v:List Bool)(f:List Int),o.drop j=l→Marks 0 ((d.f5.length:Int)-1) v f→f.Nodup→f.length+l.length≤100→(∀x∈f,x∈o.take j) →
  ∃t g,ga i d.f0 d.f1 d.f2 d.f3 d.f5 o l j d.f4 v=some (.x0 t)∧iR i d.f0 d.f1 d.f2 d.f3 d.f5 l j d.f4 f=some (.x0 g)∧Marks 0 ((d.f5.length:Int)-1) t g∧g.Nodup∧g.length≤100
 |[],j,v,f,_,u,F,p,_=>⟨v,f,rfl,rfl,u,F,by simpa using p⟩
 |k::l,j,v,f,s,u,F,p,r=>by
  have e:GDag.mk d.f0 d.f1 d.f2 d.f3 d.f4 d.f5=d:=rfl;have hj:o[j]?=some k:=by rw[←Rg,s];rfl
  have B:=mq s;have I:=H k (O9 hj);obtain⟨O,U⟩:=Lw hd I;obtain⟨n,rfl⟩:∃m:Nat,k=(m:Int):=⟨k.toNat,by omega⟩
  have y:(n:Int)∉f:=fun w=>by have P:=r _ w;obtain⟨a,J,C⟩:=List.getElem_of_mem P;rw[List.getElem_take]at C;simp only[List.length_take]at J;rw[Pb B]at hj;exact QE.1 G a j (by omega) B (by omega) (by rw[C,QW hj])
  have Q:am o (j:Int)=some (n:Int):=by rw[dZ];exact hj
  have hv:=u.1;have K:v[n]?=some false:=by
   obtain⟨c,hc,_⟩:=eO (l:=v) (k:=(n:Int)) (by omega);have z:=(jO hc).2;rw[show((n:Int)).toNat=n by omega]at z;cases c with
   |true=>exact absurd ((u.2.2 n (by omega)).1 z) y
   |false=>exact z
  have M:v.set n false=v:=by
   refine Qt fun a => ?_
   rw[R4];split
   ·rename_i R;subst R;rw[O6 (by omega),K]
   ·rfl
  have N:=HV i o (j:Int) n d.f5.length Q f v u (by omega) y (ups d n) 0 d.f4 false O;rw[M,Rf]at N;have S:=HU i n f (by simp only[PH]at p;omega) (ups d n) 0 d.f4;simp only[PH]at p;have D:∀x,x∈o.take j→x∈o.take (j+1):=fun x hx=>by rw[Ru,hj];simp[hx]
  have L:∃t g,ga i d.f0 d.f1 d.f2 d.f3 d.f5 o l (j+1) d.f4 (v.set n (below i f (ups d n)))=some (.x0 t)∧iR i d.f0 d.f1 d.f2 d.f3 d.f5 l (j+1) d.f4 (cond (below i f (ups d n)) (f++[(n:Int)]) f)=some (.x0 g)∧Marks 0 ((d.f5.length:Int)-1) t g∧g.Nodup∧g.length≤100:=by
   cases below i f (ups d n)with
   |true =>
    refine vQ d h hd i o G H A l (j+1) _ _ (aE s) ?_ ?_ (by simp;omega) fun x hx => ?_
    ·have:=u.add (Qe 0) (x:=(n:Int)) (by omega);exact this
    ·rw[Pk,List.nodup_append];exact⟨F,by simp,fun a J b hb q=>by rw[Pe]at hb;subst hb;subst q;exact y J⟩
    ·rw[Pk]at hx;rcases PE.1 hx with hx|hx
     ·exact D x (r x hx)
     ·rw[Pe]at hx;subst hx;rw[Ru,hj];simp
   |false =>rw[M,Pt];exact vQ d h hd i o G H A l (j+1) v f (aE s) u F (by omega) fun x hx=>D x (r x hx)
  obtain⟨t,g,f1,f2,f3⟩:=L;refine⟨t,g,?_,?_,f3⟩
  ·unfold ga;rw[e,O6 h,O6 hd,O6 I,O6 (by omega),N,O5];exact f1
  ·unfold iR;rw[e,O6 h,O6 hd,O6 I,O6 (by omega),S,O5];exact f2
theorem yz:∀(l:List Bool)(k:Nat)(v:List Int),v.length+l.length≤1000→v.Pairwise (· < ·)→(∀y∈v,y<(k:Int))→∃w,gd l k v=some (.x4 w)∧w.Pairwise (· < ·)∧∀y,y∈w↔y∈v∨∃j:Nat,l[j]?=some true∧y=((k+j:Nat):Int)
 |[],k,v,_,e,_=>⟨v,rfl,e,fun y=>by simp⟩
 |b::l,k,v,o,e,f=>by
  simp only[PH]at o;unfold gd;cases b with
  |true =>
   obtain⟨w,g,i,m⟩:=yz l (k+1) (v++[(k:Int)]) (by simp;omega)
    (by rw[Ro];exact⟨e,by simp,fun a p c hc=>by rw[Pe]at hc;subst hc;exact f a p⟩)
    (fun y hy=>by rcases PE.1 hy with hy|hy;have:=f y hy;omega;rw[Pe]at hy;omega)
   refine⟨w,by rw[Pk,O6 (by simp;omega)];exact g,i,fun y => ?_⟩;rw[m,PE,Pe];constructor
   ·rintro((h|h)|⟨j,d,n⟩)
    ·exact .inl h
    ·exact .inr ⟨0,rfl,by omega⟩
    ·exact .inr ⟨j+1,d,by omega⟩
   ·rintro(h|⟨j,d,n⟩)
    ·exact .inl (.inl h)
    ·cases j with
     |zero=>exact .inl (.inr (by omega))
     |succ j=>exact .inr ⟨j,d,by omega⟩
  |false =>
   obtain⟨w,g,i,m⟩:=yz l (k+1) v (by omega) e (fun y hy=>by have:=f y hy;omega);refine⟨w,g,i,fun y => ?_⟩;rw[m];constructor
   ·rintro(h|⟨j,d,n⟩)
    ·exact .inl h
    ·exact .inr ⟨j+1,d,by omega⟩
   ·rintro(h|⟨j,d,n⟩)
    ·exact .inl h
    ·cases j with
     |zero=>cases d
     |succ j=>exact .inr ⟨j,d,by omega⟩
noncomputable def bz (d:GDag)(i:Int):List Int:=(nl d i).getD []
noncomputable def bT (d:GDag)(i:Int):List Int:=cond (aN d&&lg d i) (bz d i) []
theorem yA (d:GDag)(i:Int)(h:ae.sm d)(hd:aN d=true)(hi:0≤i∧i<(d.f5.length:Int)):nl d i=some (bz d i)∧((bz d i).length≤100∧∀y∈bz d i,0≤y∧y<(d.f5.length:Int))∧jf d i=some (bz d i):=by
 obtain⟨J,K, -,f,L⟩:=oz hd;have hs:ae.sm d.f5:=h.2.2;obtain⟨q,r⟩:=wR f;have s:Marks 0 ((d.f5.length:Int)-1) (List.replicate d.f5.length false) []:=by refine⟨by rw[List.length_replicate];omega,fun x k=>(by cases k),fun j t => ?_⟩;rw[Re,O6 (by omega)];simp
 obtain⟨v,b,u,z,c,A,B⟩:=vQ d h hd i (bW d.f5) q r (by omega) (bW d.f5) 0 _ [] rfl s (by simp) (by simp;omega) (fun x k=>by cases k);obtain⟨w,C,D,F⟩:=yz v 0 [] (by have:=c.1;simp;omega) (by simp) (fun y a=>by cases a);obtain⟨G,n⟩:=pY A;have H:w=cJ b:=r6 D G fun y=>by
  rw[F,n];constructor
  ·rintro(a|⟨j,l,I⟩)
   ·cases a
   ·have t:j<v.length:=by
     rcases Pf j v.length with g|g
     ·exact g
     ·rw[Pc g]at l;cases l
    have:=(c.2.2 j (by have:=c.1;omega)).1 l;rw[I,Q3];exact this
  ·intro a;have hb:=c.2.1 y a;refine .inr ⟨y.toNat,(c.2.2 y.toNat (by omega)).2 ?_,by omega⟩;rw[show((y.toNat:Nat):Int)=y by omega];exact a
 have e:cn d=bW d.f5:=rfl;have o:nl d i=some (cJ b):=by unfold nl;rw[O6 h,O6 f,e,O6 (by omega),z,O5];simp only;rw[O6 (by omega)]
 have p:bz d i=cJ b:=by unfold bz;rw[o];rfl
 refine⟨by rw[p];exact o,⟨by rw[p];show(List.mergeSort _ _).length≤_;rw[RC];exact B,fun y a=>by rw[p]at a;have hb:=c.2.1 y ((n y).1 a);omega⟩,?_⟩;unfold jf;have m:ah i 0 (IntKind.wrap .i64 ((d.f5.length:Int)-1))=true:=by rw[dn _ (by omega) (by omega)];unfold ah;rw[Ph (by omega),Ph (by omega)];rfl
 rw[O6 h,hd,Pk,m,Pk,O6 hs,O6 f,O6 (by omega),O6 (by omega),show((d.f5.length:Int)).toNat=d.f5.length by omega,u,O5];simp only;rw[O6 (by have:=c.1;omega),C,O5,H,p]
theorem Kh (d:GDag)(i:Int)(h:ae.sm d):jf d i=some (bT d i):=by
 unfold bT;cases q:aN d with
 |false =>unfold jf;rw[O6 h,q];rfl
 |true =>
  cases a:lg d i with
  |false =>have e:ah i 0 (IntKind.wrap .i64 ((d.f5.length:Int)-1))=lg d i:=rfl;unfold jf;rw[O6 h,q,e,a];rfl
  |true=>exact(yA d i h q (Co a h)).2.2
theorem B9 {q0:Kd}(x0:GDag)(a:Int)(h:ae.sm x0)(hd:aN x0=true)(hi:0≤a∧a<(x0.f5.length:Int)):Does E 30 [.agg (GDag.t .far q0 x0),O0 a] [(false,[.s .own () 1 ((bz x0 a).map etI)])]:=by exact KG x0 a _ (yA x0 a h hd hi).1
theorem oZ {q0:Kd}(x0:GDag)(a:Int)(h:ae.sm x0):Does E 20 [.agg (GDag.t .far q0 x0),O0 a] [(false,[.s .own () 1 ((bT x0 a).map etI)])]:=by exact Hp x0 a _ (Kh x0 a h)
inductive tM where|ret (v6_0:ByteArray) (v6_1 v6_2 v6_3:Int) (v6_4:List GState) (v7:Bool)|x0 (v11_4:List GState)
def hZ (q0:Kd)(e f:ByteArray)(g h:Int)(i:Bool)(j:List GTask)(k:ByteArray)(l m n:Int)(o:List GState)(v6_0:ByteArray)(v6_1 v6_2 v6_3:Int)(v6_4:List GState)(v9:Bool)(v10:List Int)(a:ByteArray)(b c d:Int)(v11_4:List GState)(p:Int):US:=stL 81 [(3,.box () [tS e,tS f,tI g,tI h,tB i,.s .far () 5 (j.map (GTask.t q0))]),(4,.box () [tS k,tI l,tI m,tI n,.s .far () 4 (o.map GState.t)]),(6,.box () [tS v6_0,tI v6_1,tI v6_2,tI v6_3,.s .own () 4 (v6_4.map GState.t)]),(9,O1 v9),(10,.one (.s .own () 1 (v10.map etI))),(11,.box () [tS a,tI b,tI c,tI d,.s .own () 4 (v11_4.map GState.t)]),(12,O0 p)]
def jm (q0:Kd)(a:ByteArray)(b c d:Int)(e:List GState)(f:Bool):US:=stL 81 [(6,.box () [tS a,tI b,tI c,tI d,.s .own () 4 (e.map GState.t)]),(7,O1 f)]
def kb (q0:Kd)(f g:ByteArray)(h i:Int)(j:Bool)(k:List GTask)(l:ByteArray)(m n o:Int)(p:List GState)(v6_0:ByteArray)(v6_1 v6_2 v6_3:Int)(v6_4:List GState)(v9:Bool)(b:ByteArray)(c d e:Int)(a:List GState):US:=stL 81 [(3,.box () [tS f,tS g,tI h,tI i,tB j,.s .far () 5 (k.map (GTask.t q0))]),(4,.box () [tS l,tI m,tI n,tI o,.s .far () 4 (p.map GState.t)]),(6,.box () [tS v6_0,tI v6_1,tI v6_2,tI v6_3,.s .own () 4 (v6_4.map GState.t)]),(9,O1 v9),(11,.box () [tS b,tI c,tI d,tI e,.s .own () 4 (a.map GState.t)])]
abbrev oQ:US→Exit→US→Prop:=Round E 6 (av Tryz.f6 0)
def Br {q0:Kd}(e f:ByteArray)(g h:Int)(i:Bool)(j:List GTask)(k:ByteArray)(l m n:Int)(o:List GState)(v6_0:ByteArray)(v6_1 v6_2 v6_3:Int)(v6_4:List GState)(v9:Bool)(v10:List Int)(a:ByteArray)(b c d:Int)(v11_4:List GState)(v:Int):tM→Prop| .ret q r s t u w=>Loops E 6 (av Tryz.f6 0) (hZ q0 e f g h i j k l m n o v6_0 v6_1 v6_2 v6_3 v6_4 v9 v10 a b c d v11_4 v) .ret (jm q0 q r s t u w)| .x0 p=>Loops E 6 (av Tryz.f6 0) (hZ q0 e f g h i j k l m n o v6_0 v6_1 v6_2 v6_3 v6_4 v9 v10 a b c d v11_4 v) (.exit 0) (kb q0 e f g h i j k l m n o v6_0 v6_1 v6_2 v6_3 v6_4 v9 a b c d p)
noncomputable def eY (a:List GState):List Int→Nat→Bool→Bool→(List GState)→Option tM|[],i,b,v9,v11_4=>some (.x0 v11_4)|hd::rest,i,b,v9,v11_4=>(am a hd).bind fun g1=>cond (g1.f0==(1:Int)) (some (.ret ByteArray.empty 0 0 0 ([]) false)) ((am v11_4 hd).bind fun c=>eY a rest (i+1) b v9 (v11_4.set hd.toNat (GState.mk 0 0 0 0)))
theorem tL {q0:Kd}(g j:ByteArray)(k l:Int)(m:List GTask)(n:ByteArray)(o q s:Int)(f:List GState)(v6_0:ByteArray)(v6_1 v6_2 v6_3:Int)(v6_4:List GState)(v10:List Int)(b:ByteArray)(c d e:Int)(rest:List Int):∀(i:Nat)(a v9:Bool)(v11_4:List GState),(v10).drop i=rest→v10.length≤9223372036854775807→Ans (eY f rest i a v9 v11_4) (Br (q0:=q0) g j k l a m n o q s f v6_0 v6_1 v6_2 v6_3 v6_4 v9 v10 b c d e v11_4 (i:Int)):=by
 induction rest with
 |nil =>intro i a v9 v11_4 u v;have hb:=aZ u;unfold eY;exact OO (OQ (show oQ (hZ q0 g j k l a m n o q s f v6_0 v6_1 v6_2 v6_3 v6_4 v9 v10 b c d e v11_4 (i:Int)) (.exit 0) (kb q0 g j k l a m n o q s f v6_0 v6_1 v6_2 v6_3 v6_4 v9 b c d e v11_4)from RP [O3 (v10.length:Int),.b false] (ALn v10 etI<|AC hb<|AN)) (by intro h;cases h))
 |cons hd rest C =>
  intro i a v9 v11_4 u v;have hb:=aT u;have D:=aU u v;have w:=aE u;have x:=aW u;unfold eY;refine OS (fun g1 z => ?_);apply OR<;>intro A
  ·exact OO (OQ (show oQ (hZ q0 g j k l a m n o q s f v6_0 v6_1 v6_2 v6_3 v6_4 v9 v10 b c d e v11_4 (i:Int)) .ret (jm q0 ByteArray.empty 0 0 0 ([]) false)from RP [O3 (v10.length:Int),.b true,.row (etI hd),.row (GState.t g1),.b true] (ALn v10 etI<|AC hb<|AG etI x<|AR GState.t z<|AC A<|AN)) (by intro h;cases h))
  ·refine OS (fun B F => ?_);exact(C (i+1) a v9 (v11_4.set hd.toNat (GState.mk 0 0 0 0)) w v).mono fun y G=>by have r:oQ (hZ q0 g j k l a m n o q s f v6_0 v6_1 v6_2 v6_3 v6_4 v9 v10 b c d e v11_4 (i:Int)) .normal (hZ q0 g j k l a m n o q s f v6_0 v6_1 v6_2 v6_3 v6_4 v9 v10 b c d e (v11_4.set hd.toNat (GState.mk 0 0 0 0)) (inc (i:Int))):=RP [O3 (v10.length:Int),.b true,.row (etI hd),.row (GState.t g1),.b false,.row (etI hd),.row (GState.t B),.rows ((v11_4.set hd.toNat (GState.mk 0 0 0 0)).map GState.t)] (ALn v10 etI<|AC hb<|AG etI x<|AR GState.t z<|AC A<|AG etI x<|AG GState.t F<|AC (p:=(v11_4.map GState.t).set (0+hd.toNat) (au (GState.t B) 0 [tI 0,tI 0,tI 0,tI 0])=(v11_4.set hd.toNat (GState.mk 0 0 0 0)).map GState.t) (db (by rfl))<|AN);rw[D]at r;cases y<;>exact OP r G
noncomputable def mM (x0:GDag)(b:GRun)(x2:Int):Option (GRun×Bool):=
  if ae.sm x0 then cond (of x0 b)
   (cond (ah x2 0 (IntKind.wrap .i64 ((b.f3.length:Int)-(1:Int))))
    (cond (b.f2==(1000:Int))
     (some ((GRun.mk ByteArray.empty (GSpan.mk 0 0) 0 ([]:List GState)),false))
     (if aN x0=true then if b.f3.length=x0.f5.length then if 0≤x2∧x2<(x0.f5.length:Int)then cond ((aq x0 b x2).2)
      (if(([x2]).length+(bT x0 x2).length)*8≤140737488355328∧([x2]).length+(bT x0 x2).length≤4611686018427387904 then if ae.sm b then if(([x2])++(bT x0 x2)).length≤9223372036854775807 then(eY b.f3 (([x2])++(bT x0 x2)) 0 x0.f4 ((aq x0 b x2).2) ((id b).f3)).bind fun y=>match y with
       | .ret c d e f g h=>(some ((GRun.mk c (GSpan.mk d e) f g),h))
       | .x0 a=>(some ((GRun.mk ByteArray.empty (GSpan.mk 0 0) 0 ([]:List GState)),false))else none else none else none)
      (if(([x2]).length+(bT x0 x2).length)*8≤140737488355328∧([x2]).length+(bT x0 x2).length≤4611686018427387904 then if ae.sm b then if(([x2])++(bT x0 x2)).length≤9223372036854775807 then(eY b.f3 (([x2])++(bT x0 x2)) 0 x0.f4 ((aq x0 b x2).2) ((id b).f3)).bind fun y=>match y with
       | .ret c d e f g h=>(some ((GRun.mk c (GSpan.mk d e) f g),h))
       | .x0 a=>(if ae.sm (GRun.mk ((id b).f0) ((id b).f1) (inc b.f2) a)then some ((iL x0 (GRun.mk ((id b).f0) ((id b).f1) (inc b.f2) a)),true)else none)else none else none else none)else none else none else none))
    (some ((GRun.mk ByteArray.empty (GSpan.mk 0 0) 0 ([]:List GState)),false)))
   (some ((GRun.mk ByteArray.empty (GSpan.mk 0 0) 0 ([]:List GState)),false))else none
theorem Di {q0:Kd}(x0:GDag)(a:GRun)(x2:Int):Ans (mM x0 a x2) (fun r=>Does E 6 [.agg (GDag.t .far q0 x0),.agg (GRun.t .far a),O0 x2] [(true,GRun.t .own r.1),OY r.2]):=by
 unfold mM;refine OT (fun h => ?_);apply OR<;>intro l
 ·apply OR<;>intro n
  ·apply OR<;>intro o
   ·exact OO (DP Tryz.f6 [rT,O3 (a.f3.length:Int),rT,.b true] (AV (ψ:=fun k=>E.C k 17 [.agg (GDag.t .far q0 x0),.agg (GRun.t .far a)]=some [OY true]) (OU (kW x0 a h) (by rw[l]))<|ALn a.f3 GState.t<|AD (OW (ai x2 0 (IntKind.wrap .i64 ((a.f3.length:Int)-(1:Int)))) n)<|AC o<|AN))
   ·refine OT (fun p => ?_);refine OT (fun q => ?_);refine OT (fun s => ?_);apply OR<;>intro f1
    ·refine OT (fun f2 => ?_);refine OT (fun f3 => ?_);refine OT (fun m => ?_);refine OS (fun y j => ?_);replace j:=tL (q0:=q0) x0.f0 x0.f1 x0.f2 x0.f3 x0.f5 a.f0 a.f1.f0 a.f1.f1 a.f2 a.f3 ByteArray.empty 0 0 0 ([]) (([x2])++(bT x0 x2)) ((id a).f0) (((id a).f1).f0) (((id a).f1).f1) ((id a).f2) (([x2])++(bT x0 x2)) 0 x0.f4 ((aq x0 a x2).2) ((id a).f3) rfl m y j;cases y with
     |ret c d e f g i =>have f4:=j;exact OO (DP Tryz.f6 [rT,O3 (a.f3.length:Int),rT,.b false,.ret [OY ((aq x0 a x2).1),OY ((aq x0 a x2).2)],.ret [(false,[.s .own () 1 ((bT x0 x2).map etI)])],.rows ((([x2])++(bT x0 x2)).map etI),.ret [(true,GRun.t .own (id a))],.lp .ret (jm q0 c d e f g i)] (AV (ψ:=fun k=>E.C k 17 [.agg (GDag.t .far q0 x0),.agg (GRun.t .far a)]=some [OY true]) (OU (kW x0 a h) (by rw[l]))<|ALn a.f3 GState.t<|AD (OW (ai x2 0 (IntKind.wrap .i64 ((a.f3.length:Int)-(1:Int)))) n)<|AC o<|AV (ψ:=fun k=>E.C k 19 [.agg (GDag.t .far q0 x0),.agg (GRun.t .far a),O0 x2]=some [OY ((aq x0 a x2).1),OY ((aq x0 a x2).2)]) (bh x0 a x2 h p q s)<|AV (ψ:=fun k=>E.C k 20 [.agg (GDag.t .far q0 x0),O0 x2]=some [(false,[.s .own () 1 ((bT x0 x2).map etI)])]) (oZ x0 x2 h)<|AAp etI (fun _=>rfl) f2<|AD (i7 a f3)<|AL f4<|AN))
     |x0 b =>
      have f4:=j
      (try rw[f1]at f4);exact OO (DP Tryz.f6 [rT,O3 (a.f3.length:Int),rT,.b false,.ret [OY ((aq x0 a x2).1),OY true],.ret [(false,[.s .own () 1 ((bT x0 x2).map etI)])],.rows ((([x2])++(bT x0 x2)).map etI),.ret [(true,GRun.t .own (id a))],.lp (.exit 0) (kb q0 x0.f0 x0.f1 x0.f2 x0.f3 x0.f4 x0.f5 a.f0 a.f1.f0 a.f1.f1 a.f2 a.f3 ByteArray.empty 0 0 0 ([]) true ((id a).f0) (((id a).f1).f0) (((id a).f1).f1) ((id a).f2) b)] (AV (ψ:=fun k=>E.C k 17 [.agg (GDag.t .far q0 x0),.agg (GRun.t .far a)]=some [OY true]) (OU (kW x0 a h) (by rw[l]))<|ALn a.f3 GState.t<|AD (OW (ai x2 0 (IntKind.wrap .i64 ((a.f3.length:Int)-(1:Int)))) n)<|AC o<|AV (ψ:=fun k=>E.C k 19 [.agg (GDag.t .far q0 x0),.agg (GRun.t .far a),O0 x2]=some [OY ((aq x0 a x2).1),OY true]) (OU (bh x0 a x2 h p q s) (by rw[f1]))<|AV (ψ:=fun k=>E.C k 20 [.agg (GDag.t .far q0 x0),O0 x2]=some [(false,[.s .own () 1 ((bT x0 x2).map etI)])]) (oZ x0 x2 h)<|AAp etI (fun _=>rfl) f2<|AD (i7 a f3)<|AL f4<|AN))
    ·refine OT (fun f5 => ?_);refine OT (fun f6 => ?_);refine OT (fun m => ?_);refine OS (fun y j => ?_);replace j:=tL (q0:=q0) x0.f0 x0.f1 x0.f2 x0.f3 x0.f5 a.f0 a.f1.f0 a.f1.f1 a.f2 a.f3 ByteArray.empty 0 0 0 ([]) (([x2])++(bT x0 x2)) ((id a).f0) (((id a).f1).f0) (((id a).f1).f1) ((id a).f2) (([x2])++(bT x0 x2)) 0 x0.f4 ((aq x0 a x2).2) ((id a).f3) rfl m y j;cases y with
     |ret c d e f g i =>have f7:=j;exact OO (DP Tryz.f6 [rT,O3 (a.f3.length:Int),rT,.b false,.ret [OY ((aq x0 a x2).1),OY ((aq x0 a x2).2)],.ret [(false,[.s .own () 1 ((bT x0 x2).map etI)])],.rows ((([x2])++(bT x0 x2)).map etI),.ret [(true,GRun.t .own (id a))],.lp .ret (jm q0 c d e f g i)] (AV (ψ:=fun k=>E.C k 17 [.agg (GDag.t .far q0 x0),.agg (GRun.t .far a)]=some [OY true]) (OU (kW x0 a h) (by rw[l]))<|ALn a.f3 GState.t<|AD (OW (ai x2 0 (IntKind.wrap .i64 ((a.f3.length:Int)-(1:Int)))) n)<|AC o<|AV (ψ:=fun k=>E.C k 19 [.agg (GDag.t .far q0 x0),.agg (GRun.t .far a),O0 x2]=some [OY ((aq x0 a x2).1),OY ((aq x0 a x2).2)]) (bh x0 a x2 h p q s)<|AV (ψ:=fun k=>E.C k 20 [.agg (GDag.t .far q0 x0),O0 x2]=some [(false,[.s .own () 1 ((bT x0 x2).map etI)])]) (oZ x0 x2 h)<|AAp etI (fun _=>rfl) f5<|AD (i7 a f6)<|AL f7<|AN))
     |x0 b =>
      have f7:=j;refine OT (fun u => ?_)
      (try rw[f1]at f7);exact OO (DP Tryz.f6 [rT,O3 (a.f3.length:Int),rT,.b false,.ret [OY ((aq x0 a x2).1),OY false],.ret [(false,[.s .own () 1 ((bT x0 x2).map etI)])],.rows ((([x2])++(bT x0 x2)).map etI),.ret [(true,GRun.t .own (id a))],.lp (.exit 0) (kb q0 x0.f0 x0.f1 x0.f2 x0.f3 x0.f4 x0.f5 a.f0 a.f1.f0 a.f1.f1 a.f2 a.f3 ByteArray.empty 0 0 0 ([]) false ((id a).f0) (((id a).f1).f0) (((id a).f1).f1) ((id a).f2) b),.ret [(true,GRun.t .own (iL x0 (GRun.mk ((id a).f0) ((id a).f1) (inc a.f2) b)))]] (AV (ψ:=fun k=>E.C k 17 [.agg (GDag.t .far q0 x0),.agg (GRun.t .far a)]=some [OY true]) (OU (kW x0 a h) (by rw[l]))<|ALn a.f3 GState.t<|AD (OW (ai x2 0 (IntKind.wrap .i64 ((a.f3.length:Int)-(1:Int)))) n)<|AC o<|AV (ψ:=fun k=>E.C k 19 [.agg (GDag.t .far q0 x0),.agg (GRun.t .far a),O0 x2]=some [OY ((aq x0 a x2).1),OY false]) (OU (bh x0 a x2 h p q s) (by rw[f1]))<|AV (ψ:=fun k=>E.C k 20 [.agg (GDag.t .far q0 x0),O0 x2]=some [(false,[.s .own () 1 ((bT x0 x2).map etI)])]) (oZ x0 x2 h)<|AAp etI (fun _=>rfl) f5<|AD (i7 a f6)<|AL f7<|AV (ψ:=fun k=>E.C k 22 [.agg (GDag.t .far q0 x0),.agg (GRun.t .far (GRun.mk ((id a).f0) ((id a).f1) (inc a.f2) b))]=some [(true,GRun.t .own (iL x0 (GRun.mk ((id a).f0) ((id a).f1) (inc a.f2) b)))]) (CO x0 (GRun.mk ((id a).f0) ((id a).f1) (inc a.f2) b) h u)<|AN))
  ·exact OO (DP Tryz.f6 [rT,O3 (a.f3.length:Int),rF] (AV (ψ:=fun k=>E.C k 17 [.agg (GDag.t .far q0 x0),.agg (GRun.t .far a)]=some [OY true]) (OU (kW x0 a h) (by rw[l]))<|ALn a.f3 GState.t<|AD (OW (ai x2 0 (IntKind.wrap .i64 ((a.f3.length:Int)-(1:Int)))) n)<|AN))
 ·exact OO (DP Tryz.f6 [rF] (AV (ψ:=fun k=>E.C k 17 [.agg (GDag.t .far q0 x0),.agg (GRun.t .far a)]=some [OY false]) (OU (kW x0 a h) (by rw[l]))<|AN))
inductive tq where|ret (v6_0:ByteArray) (v6_1 v6_2 v6_3:Int) (v6_4:List GState) (v7:Bool)|x0 (v11_4:List GState)
def eP (q0:Kd)(e f:ByteArray)(g h:Int)(i:Bool)(j:List GTask)(k:ByteArray)(l m n:Int)(o:List GState)(v6_0:ByteArray)(v6_1 v6_2 v6_3:Int)(v6_4:List GState)(v9:Bool)(a:ByteArray)(b c d:Int)(v11_4:List GState)(p:List Int)(v46 q:Int):US:=stL 75 [(3,.box () [tS e,tS f,tI g,tI h,tB i,.s .far () 5 (j.map (GTask.t q0))]),(4,.box () [tS k,tI l,tI m,tI n,.s .far () 4 (o.map GState.t)]),(6,.box () [tS v6_0,tI v6_1,tI v6_2,tI v6_3,.s .own () 4 (v6_4.map GState.t)]),(9,O1 v9),(11,.box () [tS a,tI b,tI c,tI d,.s .own () 4 (v11_4.map GState.t)]),(45,.one (.s .own () 1 (p.map etI))),(46,O0 v46),(47,O0 q)]
def jk (q0:Kd)(a:ByteArray)(b c d:Int)(e:List GState)(f:Bool):US:=stL 75 [(6,.box () [tS a,tI b,tI c,tI d,.s .own () 4 (e.map GState.t)]),(7,O1 f)]
def jS (q0:Kd)(f g:ByteArray)(h i:Int)(j:Bool)(k:List GTask)(v6_0:ByteArray)(v6_1 v6_2 v6_3:Int)(v6_4:List GState)(b:ByteArray)(c d e:Int)(a:List GState):US:=stL 75 [(3,.box () [tS f,tS g,tI h,tI i,tB j,.s .far () 5 (k.map (GTask.t q0))]),(6,.box () [tS v6_0,tI v6_1,tI v6_2,tI v6_3,.s .own () 4 (v6_4.map GState.t)]),(11,.box () [tS b,tI c,tI d,tI e,.s .own () 4 (a.map GState.t)])]
abbrev jq:US→Exit→US→Prop:=Round E 9 (av Tryz.f9 0)
def A3 {q0:Kd}(e f:ByteArray)(g h:Int)(i:Bool)(j:List GTask)(l:ByteArray)(m n o:Int)(p:List GState)(v6_0:ByteArray)(v6_1 v6_2 v6_3:Int)(v6_4:List GState)(v9:Bool)(a:ByteArray)(b c d:Int)(v11_4:List GState)(v:List Int)(v46 w:Int):tq→Prop| .ret q r s t u x=>Loops E 9 (av Tryz.f9 0) (eP q0 e f g h i j l m n o p v6_0 v6_1 v6_2 v6_3 v6_4 v9 a b c d v11_4 v v46 w) .ret (jk q0 q r s t u x)| .x0 k=>Loops E 9 (av Tryz.f9 0) (eP q0 e f g h i j l m n o p v6_0 v6_1 v6_2 v6_3 v6_4 v9 a b c d v11_4 v v46 w) (.exit 0) (jS q0 e f g h i j v6_0 v6_1 v6_2 v6_3 v6_4 a b c d k)
noncomputable def dQ (b:List GState)(c:List Int)(v46:Int):Nat→Bool→Bool→(List GState)→Int→Option tq
 | 0,_,_,_,_=>none
 |n+1,d,v9,v11_4,a=>match v9 with
  |true=>cond (decide (a<v46))
   ((am c a).bind fun e=>some (.ret ByteArray.empty 0 0 0 ([]) false))
   (some (.x0 v11_4))
  |false=>cond (decide (a<v46))
   ((am c a).bind fun e=>(am b e).bind fun g1=>cond (g1.f0==(1:Int))
    (some (.ret ByteArray.empty 0 0 0 ([]) false))
    ((am v11_4 e).bind fun f=>dQ b c v46 n d false (v11_4.set e.toNat (GState.mk 0 0 0 0)) (inc a)))
   (some (.x0 v11_4))
theorem A2 {q0:Kd}(f g:ByteArray)(i j:Int)(k:List GTask)(m:ByteArray)(o q s:Int)(l:List GState)(v6_0:ByteArray)(v6_1 v6_2 v6_3:Int)(v6_4:List GState)(a:ByteArray)(b c d:Int)(v:List Int)(v46:Int)(n:Nat):∀(e v9:Bool)(v11_4:List GState)(u:Int),Ans (dQ l v v46 n e v9 v11_4 u) (A3 (q0:=q0) f g i j e k m o q s l v6_0 v6_1 v6_2 v6_3 v6_4 v9 a b c d v11_4 v v46 u):=by
 induction n with
 |zero=>intros;exact Ans.none
 |succ n D =>
  intro e v9 v11_4 u;unfold dQ;cases v9 with
  |true =>
   apply OR<;>intro x
   ·refine OS (fun w z => ?_);exact OO (OQ (show jq (eP q0 f g i j e k m o q s l v6_0 v6_1 v6_2 v6_3 v6_4 true a b c d v11_4 v v46 u) .ret (jk q0 ByteArray.empty 0 0 0 ([]) false)from RP [.b true,.row (etI w)] (AC x<|AG etI z<|AN)) (by intro h;cases h))
   ·exact OO (OQ (show jq (eP q0 f g i j e k m o q s l v6_0 v6_1 v6_2 v6_3 v6_4 true a b c d v11_4 v v46 u) (.exit 0) (jS q0 f g i j e k v6_0 v6_1 v6_2 v6_3 v6_4 a b c d v11_4)from RP [.b false] (AC x<|AN)) (by intro h;cases h))
  |false =>
   apply OR<;>intro x
   ·refine OS (fun w z => ?_);refine OS (fun g1 A => ?_);apply OR<;>intro B
    ·exact OO (OQ (show jq (eP q0 f g i j e k m o q s l v6_0 v6_1 v6_2 v6_3 v6_4 false a b c d v11_4 v v46 u) .ret (jk q0 ByteArray.empty 0 0 0 ([]) false)from RP [.b true,.row (etI w),.row (GState.t g1),.b true] (AC x<|AG etI z<|AR GState.t A<|AC B<|AN)) (by intro h;cases h))
    ·refine OS (fun C F => ?_);have r:jq (eP q0 f g i j e k m o q s l v6_0 v6_1 v6_2 v6_3 v6_4 false a b c d v11_4 v v46 u) .normal (eP q0 f g i j e k m o q s l v6_0 v6_1 v6_2 v6_3 v6_4 false a b c d (v11_4.set w.toNat (GState.mk 0 0 0 0)) v v46 (inc u)):=RP [.b true,.row (etI w),.row (GState.t g1),.b false,.row (GState.t C),.rows ((v11_4.set w.toNat (GState.mk 0 0 0 0)).map GState.t)] (AC x<|AG etI z<|AR GState.t A<|AC B<|AG GState.t F<|AC (p:=(v11_4.map GState.t).set (0+w.toNat) (au (GState.t C) 0 [tI 0,tI 0,tI 0,tI 0])=(v11_4.set w.toNat (GState.mk 0 0 0 0)).map GState.t) (db (by rfl))<|AN);exact(D e false (v11_4.set w.toNat (GState.mk 0 0 0 0)) (inc u)).mono fun y G=>by cases y<;>exact OP r G
   ·exact OO (OQ (show jq (eP q0 f g i j e k m o q s l v6_0 v6_1 v6_2 v6_3 v6_4 false a b c d v11_4 v v46 u) (.exit 0) (jS q0 f g i j e k v6_0 v6_1 v6_2 v6_3 v6_4 a b c d v11_4)from RP [.b false] (AC x<|AN)) (by intro h;cases h))
noncomputable def mB (x0:GDag)(b:GRun)(x2:Int):Option (GRun×Bool):=
  cond (lg x0 x2)
   (if ae.sm x0 then cond (of x0 b)
    (cond (b.f2==(1000:Int))
     (some ((GRun.mk ByteArray.empty (GSpan.mk 0 0) 0 ([]:List GState)),false))
     (if aN x0=true then if b.f3.length=x0.f5.length then if 0≤x2∧x2<(x0.f5.length:Int)then if(([x2]).length+(bz x0 x2).length)*8≤140737488355328∧([x2]).length+(bz x0 x2).length≤4611686018427387904 then if ae.sm b then(dQ b.f3 (([x2])++(bz x0 x2)) ((([x2])++(bz x0 x2)).length:Int) 9223372036854775808 x0.f4 ((aR x0 b x2).2) ((id b).f3) 0).bind fun y=>match y with
      | .ret c d e f g h=>(some ((GRun.mk c (GSpan.mk d e) f g),h))
      | .x0 a=>(if ae.sm (GRun.mk ((id b).f0) ((id b).f1) ((id b).f2) a)then if(GRun.mk ((id b).f0) ((id b).f1) ((id b).f2) a).f3.length=x0.f5.length then some ((GRun.mk ((ig (GRun.mk ((id b).f0) ((id b).f1) ((id b).f2) a) x0).f0) ((ig (GRun.mk ((id b).f0) ((id b).f1) ((id b).f2) a) x0).f1) (inc ((ig (GRun.mk ((id b).f0) ((id b).f1) ((id b).f2) a) x0).f2)) ((ig (GRun.mk ((id b).f0) ((id b).f1) ((id b).f2) a) x0).f3)),true)else none else none)else none else none else none else none else none))
    (some ((GRun.mk ByteArray.empty (GSpan.mk 0 0) 0 ([]:List GState)),false))else none)
   (some ((GRun.mk ByteArray.empty (GSpan.mk 0 0) 0 ([]:List GState)),false))
theorem CV {q0:Kd}(x0:GDag)(a:GRun)(x2:Int):Ans (mB x0 a x2) (fun r=>Does E 9 [.agg (GDag.t .far q0 x0),.agg (GRun.t .far a),O0 x2] [(true,GRun.t .own r.1),OY r.2]):=by
 unfold mB;apply OR<;>intro i
 ·refine OT (fun c => ?_);apply OR<;>intro m
  ·apply OR<;>intro p
   ·exact OO (DP Tryz.f9 [rT,rT,.b true] (AV (ψ:=fun k=>E.C k 26 [.agg (GDag.t .far q0 x0),O0 x2]=some [OY true]) (OU (nw x0 x2) (by rw[i]))<|AV (ψ:=fun k=>E.C k 27 [.agg (GDag.t .far q0 x0),.agg (GRun.t .far a)]=some [OY true]) (OU (rz x0 a c) (by rw[m]))<|AC p<|AN))
   ·refine OT (fun j => ?_);refine OT (fun v => ?_);refine OT (fun n => ?_);refine OT (fun w => ?_);refine OT (fun x => ?_);refine OS (fun y o => ?_);replace o:=A2 (q0:=q0) x0.f0 x0.f1 x0.f2 x0.f3 x0.f5 a.f0 a.f1.f0 a.f1.f1 a.f2 a.f3 ByteArray.empty 0 0 0 ([]) ((id a).f0) (((id a).f1).f0) (((id a).f1).f1) ((id a).f2) (([x2])++(bz x0 x2)) ((([x2])++(bz x0 x2)).length:Int) 9223372036854775808 x0.f4 ((aR x0 a x2).2) ((id a).f3) 0 y o;cases y with
    |ret d e f g h l =>have q:=o;exact OO (DP Tryz.f9 [rT,rT,.b false,.ret [OY ((aR x0 a x2).1),OY ((aR x0 a x2).2)],.ret [(false,[.s .own () 1 ((bz x0 x2).map etI)])],.rows ((([x2])++(bz x0 x2)).map etI),.ret [(true,GRun.t .own (id a))],O3 ((([x2])++(bz x0 x2)).length:Int),.lp .ret (jk q0 d e f g h l)] (AV (ψ:=fun k=>E.C k 26 [.agg (GDag.t .far q0 x0),O0 x2]=some [OY true]) (OU (nw x0 x2) (by rw[i]))<|AV (ψ:=fun k=>E.C k 27 [.agg (GDag.t .far q0 x0),.agg (GRun.t .far a)]=some [OY true]) (OU (rz x0 a c) (by rw[m]))<|AC p<|AV (ψ:=fun k=>E.C k 28 [.agg (GDag.t .far q0 x0),.agg (GRun.t .far a),O0 x2,.fni 29 []]=some [OY ((aR x0 a x2).1),OY ((aR x0 a x2).2)]) (b9 x0 a x2 c j v n)<|AV (ψ:=fun k=>E.C k 30 [.agg (GDag.t .far q0 x0),O0 x2]=some [(false,[.s .own () 1 ((bz x0 x2).map etI)])]) (B9 x0 x2 c j n)<|AAp etI (fun _=>rfl) w<|AD (xB a x)<|ALn (([x2])++(bz x0 x2)) etI<|AL q<|AN))
    |x0 b =>have q:=o;refine OT (fun s => ?_);refine OT (fun u => ?_);exact OO (DP Tryz.f9 [rT,rT,.b false,.ret [OY ((aR x0 a x2).1),OY ((aR x0 a x2).2)],.ret [(false,[.s .own () 1 ((bz x0 x2).map etI)])],.rows ((([x2])++(bz x0 x2)).map etI),.ret [(true,GRun.t .own (id a))],O3 ((([x2])++(bz x0 x2)).length:Int),.lp (.exit 0) (jS q0 x0.f0 x0.f1 x0.f2 x0.f3 x0.f4 x0.f5 ByteArray.empty 0 0 0 ([]) ((id a).f0) (((id a).f1).f0) (((id a).f1).f1) ((id a).f2) b),.ret [(true,GRun.t .own (ig (GRun.mk ((id a).f0) ((id a).f1) ((id a).f2) b) x0))]] (AV (ψ:=fun k=>E.C k 26 [.agg (GDag.t .far q0 x0),O0 x2]=some [OY true]) (OU (nw x0 x2) (by rw[i]))<|AV (ψ:=fun k=>E.C k 27 [.agg (GDag.t .far q0 x0),.agg (GRun.t .far a)]=some [OY true]) (OU (rz x0 a c) (by rw[m]))<|AC p<|AV (ψ:=fun k=>E.C k 28 [.agg (GDag.t .far q0 x0),.agg (GRun.t .far a),O0 x2,.fni 29 []]=some [OY ((aR x0 a x2).1),OY ((aR x0 a x2).2)]) (b9 x0 a x2 c j v n)<|AV (ψ:=fun k=>E.C k 30 [.agg (GDag.t .far q0 x0),O0 x2]=some [(false,[.s .own () 1 ((bz x0 x2).map etI)])]) (B9 x0 x2 c j n)<|AAp etI (fun _=>rfl) w<|AD (xB a x)<|ALn (([x2])++(bz x0 x2)) etI<|AL q<|AV (ψ:=fun k=>E.C k 32 [.box () (GRun.t .own (GRun.mk ((id a).f0) ((id a).f1) ((id a).f2) b)),.agg (GDag.t .far q0 x0)]=some [(true,GRun.t .own (ig (GRun.mk ((id a).f0) ((id a).f1) ((id a).f2) b) x0))]) (xx (GRun.mk ((id a).f0) ((id a).f1) ((id a).f2) b) x0 c s j u)<|AN))
  ·exact OO (DP Tryz.f9 [rT,rF] (AV (ψ:=fun k=>E.C k 26 [.agg (GDag.t .far q0 x0),O0 x2]=some [OY true]) (OU (nw x0 x2) (by rw[i]))<|AV (ψ:=fun k=>E.C k 27 [.agg (GDag.t .far q0 x0),.agg (GRun.t .far a)]=some [OY false]) (OU (rz x0 a c) (by rw[m]))<|AN))
 ·exact OO (DP Tryz.f9 [rF] (AV (ψ:=fun k=>E.C k 26 [.agg (GDag.t .far q0 x0),O0 x2]=some [OY false]) (OU (nw x0 x2) (by rw[i]))<|AN))
theorem Eh (d:GDag)(r:GRun)(hd:aN d=true)(a:r.f3.length=d.f5.length):iL d r=ig r d:=by unfold iL;rw[hd,show((r.f3.length:Int)==(d.f5.length:Int))=true by rw[QM];omega];rfl
theorem sg (d:GDag)(g a:GRun):∀(l:List Int)(v:List GState),fx d g l v=fx d a l v
 |[],v=>rfl
 |k::l,v=>by unfold fx;rw[sg d g a l];rfl
def gG:List Int→List GState→List GState|[],v=>v|k::l,v=>gG l (v.set k.toNat ⟨0,0,0,0⟩)
theorem nF:∀(l:List Int)(v:List GState),(gG l v).length=v.length
 |[],v=>rfl
 |k::l,v=>by unfold gG;rw[nF l,Q5]
def EM (ts:List GState)(k:Int):Bool:=match am ts k with
 |some x=>x.f0==1
 |none=>false
def qm (ts:List GState):List Int→Bool|[]=>true|k::l => !EM ts k&&qm ts l
theorem HR (ts:List GState):∀(l:List Int)(i:Nat)(z b:Bool)(v:List GState),v.length=ts.length→(∀x∈l,0≤x∧x<(ts.length:Int)) →
  eY ts l i z b v=some (cond (qm ts l) (.x0 (gG l v)) (.ret ByteArray.empty 0 0 0 [] false))
 |[],i,z,b,v,_,_=>rfl
 |k::l,i,z,b,v,hv,a=>by
  obtain⟨x,d,_⟩:=eO (a k (by simp));obtain⟨y,c,_⟩:=eO (l:=v) (k:=k) (by have:=a k (by simp);omega);have e:=HR ts l (i+1) z b (v.set k.toNat ⟨0,0,0,0⟩) (by rw[Q5];exact hv) fun y c=>a y (by simp[c])
  unfold eY qm gG EM;simp only[d,c,O5,e];cases x.f0==1<;>rfl
theorem HQ (ts:List GState)(aC:List Int)(hf:∀x∈aC,0≤x∧x<(ts.length:Int))(c:aC.length≤1000):∀(m k n:Nat)(z:Bool)(v:List GState),k+m=aC.length→m<n→v.length=ts.length →
  dQ ts aC (aC.length:Int) n z false v (k:Int)=some (cond (qm ts (aC.drop k)) (.x0 (gG (aC.drop k) v)) (.ret ByteArray.empty 0 0 0 [] false))
 |m,k,0,z,v,_,b,_=>by omega
 | 0,k,n+1,z,v,d,b,hv=>by have hd:aC.drop k=[]:=PW (by omega);have hc:decide ((k:Int)<(aC.length:Int))=false:=Pg (by omega);rw[hd];unfold dQ;rw[hc];rfl
 |m+1,k,n+1,z,v,d,b,hv=>by
  have a:k<aC.length:=by omega
  have hd:aC.drop k=aC[k]::aC.drop (k+1):=Qq a;have hc:decide ((k:Int)<(aC.length:Int))=true:=Ph (by omega);have f:am aC (k:Int)=some aC[k]:=by rw[dZ];exact Pb a
  have g:=hf aC[k] (Qv _);obtain⟨x,h,_⟩:=eO g;obtain⟨y,i,_⟩:=eO (l:=v) (k:=aC[k]) (by omega);have e:inc (k:Int)=((k+1:Nat):Int):=by rw[fH _ (by omega) (by omega)];omega
  have j:=HQ ts aC hf c m (k+1) n z (v.set aC[k].toNat ⟨0,0,0,0⟩) (by omega) (by omega) (by rw[Q5];exact hv);rw[hd];unfold dQ qm gG EM;simp only[hc,f,h,i,e,O5,Pk,j];cases x.f0==1<;>rfl
noncomputable def dC (d:GDag)(r:GRun)(i:Int):GRun×Bool:=cond (of d r&&(lg d i&&(!(r.f2==1000)&&(!(aR d r i).2&&qm r.f3 (i::bz d i))))) (⟨r.f0,r.f1,inc r.f2,fx d r (bW d.f5) (gG (i::bz d i) r.f3)⟩,true) (⟨ByteArray.empty,⟨0,0⟩,0,[]⟩,false)
theorem F9 (d:GDag)(r:GRun)(i:Int)(g:ae.sm r):ae.sm (dC d r i).1:=by
 unfold dC;cases of d r&&(lg d i&&(!(r.f2==1000)&&(!(aR d r i).2&&qm r.f3 (i::bz d i))))with
 |false=>exact⟨(by decide:(ByteArray.empty).size≤1050000),trivial,⟨by simp,fun y a=>by cases a⟩⟩
 |true=>exact⟨g.1,g.2.1,⟨by show(fx d r (bW d.f5) (gG (i::bz d i) r.f3)).length≤_;rw[xJ,nF];exact g.2.2.1,fun y _=>trivial⟩⟩
theorem zj (d:GDag)(r:GRun)(i:Int)(h:ae.sm d)(g:ae.sm r):mM d r i=some (dC d r i)∧mB d r i=some (dC d r i):=by
 unfold mM mB dC;cases q:of d r with
 |false=>refine⟨?_,?_⟩<;>simp only[O6 h]<;>cases lg d i<;>rfl
 |true =>
  have c:=q;unfold of at c;rw[PA]at c;have f:=FK c.2;have e:ah i 0 (IntKind.wrap .i64 ((r.f3.length:Int)-1))=lg d i:=by rw[f];rfl
  rw[e];cases q1:lg d i with
  |false=>refine⟨?_,?_⟩<;>simp only[O6 h]<;>rfl
  |true =>
   cases B:r.f2==1000 with
   |true=>refine⟨?_,?_⟩<;>simp only[O6 h]<;>rfl
   |false =>
    have hi:=Co q1 h;obtain⟨-,⟨s,l⟩, -⟩:=yA d i h c.1 hi;have t:bT d i=bz d i:=by unfold bT;rw[c.1,q1];rfl
    have hf:∀x∈i::bz d i,0≤x∧x<(r.f3.length:Int):=fun x hx=>by
     rw[f];rcases PD.1 hx with rfl|hx
     ·exact hi
     ·exact l x hx
    have u:(i::bz d i).length≤1000:=by rw[PH];omega
    have n:(([i]:List Int).length+(bz d i).length)*8≤140737488355328∧([i]:List Int).length+(bz d i).length≤4611686018427387904:=by rw[Rn];omega
    have C:([i]++bz d i).length≤9223372036854775807:=by rw[RS,Rn];omega
    have o:[i]++bz d i=i::bz d i:=rfl;have w:(i::bz d i).length≤9223372036854775807:=by omega
    have j:(gG (i::bz d i) r.f3).length=d.f5.length:=(nF _ _).trans f;have hs:=fun b=>HR r.f3 (i::bz d i) 0 d.f4 b r.f3 rfl hf
    have hit:=HQ r.f3 (i::bz d i) hf u (i::bz d i).length 0 9223372036854775808 d.f4 r.f3 (by omega) (by omega) rfl;rw[PQ]at hit;have z:aq d r i=((bE d r i).1,(aR d r i).2):=rfl;have p:id r=r:=rfl;have k:∀a,ae.sm (GRun.mk r.f0 r.f1 a (gG (i::bz d i) r.f3)):=fun a=>⟨g.1,g.2.1,⟨by show(gG _ _).length≤_;rw[nF];exact g.2.2.1,fun y _=>trivial⟩⟩
    have m:∀a,(GRun.mk r.f0 r.f1 a (gG (i::bz d i) r.f3)).f3.length=d.f5.length:=fun a=>by show(gG _ _).length=_;rw[nF];exact f
    have hb:∀a,iL d (GRun.mk r.f0 r.f1 a (gG (i::bz d i) r.f3))=ig (GRun.mk r.f0 r.f1 a (gG (i::bz d i) r.f3)) d:=fun a=>Eh d _ c.1 (m a)
    refine⟨?_,?_⟩
    ·simp only[O6 h,Pk,Pt,O6 c.1,O6 f,O6 hi,z,t,O6 n,O6 g,o,O6 w,p,hs];cases(aR d r i).2<;>cases qm r.f3 (i::bz d i)<;>simp only[Pk,Pt,O5,O6 (k _),hb]<;>try rfl
     show some (GRun.mk _ _ _ (fx d _ _ _),true)=some (GRun.mk _ _ _ (fx d _ _ _),true);rw[sg d _ r]
    ·simp only[O6 h,Pk,Pt,O6 c.1,O6 f,O6 hi,O6 n,O6 g,o,p];cases(aR d r i).2 with
     |true =>
      have hz:∀v,dQ r.f3 (i::bz d i) ((i::bz d i).length:Int) 9223372036854775808 d.f4 true v 0=some (.ret ByteArray.empty 0 0 0 [] false):=fun v=>by unfold dQ;have hc:decide ((0:Int)<((i::bz d i).length:Int))=true:=Ph (by rw[PH];omega);have A:am (i::bz d i) 0=some i:=rfl;simp only[hc,A,Pk,O5]
      rw[hz];rfl
     |false =>
      rw[show(0:Int)=((0:Nat):Int)from rfl,hit];cases qm r.f3 (i::bz d i)<;>simp only[Pk,Pt,O5,O6 (k _),O6 j]
      ·rfl
      ·show some (GRun.mk _ _ _ (fx d _ _ _),true)=some (GRun.mk _ _ _ (fx d _ _ _),true);rw[sg d _ r];rfl
theorem CP {q0:Kd}(x0:GDag)(a:GRun)(x2:Int)(h:ae.sm x0)(g:ae.sm a):Does E 6 [.agg (GDag.t .far q0 x0),.agg (GRun.t .far a),O0 x2] [(true,GRun.t .own ((dC x0 a x2).1)),OY ((dC x0 a x2).2)]:=by exact Di x0 a x2 _ (zj x0 a x2 h g).1
theorem CK {q0:Kd}(x0:GDag)(a:GRun)(x2:Int)(h:ae.sm x0)(g:ae.sm a):Does E 9 [.agg (GDag.t .far q0 x0),.agg (GRun.t .far a),O0 x2] [(true,GRun.t .own ((dC x0 a x2).1)),OY ((dC x0 a x2).2)]:=by exact CV x0 a x2 _ (zj x0 a x2 h g).2
end
end Go.Proofs.YtjlkcjlcmaoccaaGreatDoor.Am
