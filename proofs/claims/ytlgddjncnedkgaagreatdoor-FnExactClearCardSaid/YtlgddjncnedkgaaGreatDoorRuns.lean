/- What is blocked; what stands below a task; runs that are cleared in part. -/
import Derived.Test.YtlgddjncnedkgaaGreatDoorRitf
namespace Go.Proofs.YtlgddjncnedkgaaGreatDoor.Am
open Go
set_option linter.unusedVariables false
set_option linter.unusedSimpArgs false
section
open Go.Proofs Classical
set_option maxRecDepth 100000
theorem Ib {ts:List GTask}(n:df ts):∀(k:Nat)(o:List Int),o.Nodup→(∀x∈o,0≤x∧x<(ts.length:Int))→(lj ts k o).Nodup∧∀x∈lj ts k o,0≤x∧x<(ts.length:Int)
 | 0,o,c,d=>⟨c,d⟩
 |k+1,o,c,d=>by
  unfold lj;cases q:gD o ts ts 0 with
  |none=>exact⟨c,d⟩
  |some i =>
   obtain⟨t,j,r,f,h,s⟩:=tw q;have l:i=j:=by omega
   subst l;rw[n.2 i t f]at h;have hi:i<ts.length:=by
    rcases WI i ts.length with g|g
    ·exact g
    ·rw[WF g]at f;cases f
   have m:(i:Int)∉o:=fun q=>by rw[rC.2 q]at h;cases h
   refine Ib n k _ ?_ fun x hx=>?_
   ·rw[List.nodup_append];exact⟨c,by simp,fun a p b hb e=>by rw[WG]at hb;subst hb;subst e;exact m p⟩
   ·rcases W5.1 hx with hx|hx
    ·exact d x hx
    ·rw[WG]at hx;subst hx;omega
theorem BU {ts:List GTask}(a:df ts):(cn ts).Nodup∧∀x∈cn ts,0≤x∧x<(ts.length:Int):=Ib a _ _ (by simp) (fun x b=>by cases b)
theorem yB (h:([]:List GState).length*32≤140737488355328∧([]:List GState).length≤4611686018427387904):Does E 72 [.one (Wx 4 (([]:List GState).map Wi))] [(false,[Ww 4 (([]:List GState).map Wi)])]:=
 VY (fn:=Tryz.f72) [.b true,.rows (([]:List GState).map Wi)] [fun _=>(([]:List GState).map Wi).length=0,fun _=>([(false,[Ww 4 ([]:List (List (T Unit)))])]:URes)=[(false,[Ww 4 ([]:List (List (T Unit)))])],fun _=>(([]:List GState).map Wi).all (fun r=>r.all T.flat)=true∧(([]:List (List (T Unit))).length+(([]:List GState).map Wi).length)*32≤140737488355328∧([]:List (List (T Unit))).length+(([]:List GState).map Wi).length≤4611686018427387904,fun _=>([]:List (List (T Unit)))++(([]:List GState).map Wi)=(([]:List GState).map Wi)] rfl (fun _=>rfl) (fun k=>by kernel_rfl) ⟨Ev.c rfl,Ev.c rfl,Ev.c (uy (fun x=>rfl) h),Ev.c rfl,trivial⟩
theorem yC (y:GState)(l:List GState)(h:(y::l).length*32≤140737488355328∧(y::l).length≤4611686018427387904):Does E 72 [.one (Wx 4 ((y::l).map Wi))] [(false,[Ww 4 ((y::l).map Wi)])]:=
 VY (fn:=Tryz.f72) [.b false,.rows ((y::l).map Wi)] [fun _=>((y::l).map Wi).length≠0,fun _=>((y::l).map Wi).all (fun r=>r.all T.flat)=true∧(([]:List (List (T Unit))).length+((y::l).map Wi).length)*32≤140737488355328∧([]:List (List (T Unit))).length+((y::l).map Wi).length≤4611686018427387904,fun _=>([]:List (List (T Unit)))++((y::l).map Wi)=((y::l).map Wi)] rfl (fun _=>rfl) (fun k=>by kernel_rfl) ⟨Ev.c (by simp),Ev.c (uy (fun x=>rfl) h),Ev.c rfl,trivial⟩
noncomputable def l9 (a:List GState):Option (List GState):=if a.length*32≤140737488355328∧a.length≤4611686018427387904 then some a else none
theorem zI (a:List GState):Ans (l9 a) (fun r=>Does E 72 [.one (Wx 4 (a.map Wi))] [(false,[Ww 4 (r.map Wi)])]):=by
 unfold l9;refine V6 (fun h=>VZ ?_);cases a with
 |nil=>exact yB h
 |cons y l=>exact yC y l h
theorem yN (a:List GState)(h:a.length≤1050000):Does E 72 [.one (Wx 4 (a.map Wi))] [(false,[Ww 4 ((id a).map Wi)])]:=by exact zI a _ (by unfold l9;rw[Wz (by omega)];rfl)
noncomputable def xq (a:GRun):Option (GRun):=if(([]:List GState).length+a.f3.length)*32≤140737488355328∧([]:List GState).length+a.f3.length≤4611686018427387904 then some ((GRun.mk a.f0 a.f1 a.f2 (([]:List GState)++a.f3)))else none
abbrev ZK:=([]:List GState).map Wi
theorem N9 (a:GRun):Ans (xq a) (fun r=>Does E 37 [.agg (We .far a)] [(true,We .own r)]):=by unfold xq;apply V6;intro b;exact VZ (DP Tryz.f37 [.rows ((([]:List GState)++a.f3).map Wi)] (AC (p:=(a.f3.map Wi).all (fun r=>r.all T.flat)=true∧(ZK.length+(a.f3.map Wi).length)*32≤140737488355328∧ZK.length+(a.f3.map Wi).length≤4611686018427387904) (by exact Cu (fun x=>rfl) b)<|AC (p:=ZK++(a.f3.map Wi)=(([]:List GState)++a.f3).map Wi) (by exact mU)<|AN))
theorem jp (a:GRun)(h:ab.sm a):Does E 37 [.agg (We .far a)] [(true,We .own (id a))]:=by have:=h.2.2.1;exact N9 a _ (by unfold xq;(first|rw[Wz (by omega)]|rw[Wz (by simp;omega)]);rfl)
noncomputable def wT (a:GRun):Option (GRun):=if a.f3.length≤1050000 then some ((GRun.mk a.f0 a.f1 a.f2 (id a.f3)))else none
theorem Nk (a:GRun):Ans (wT a) (fun r=>Does E 49 [.agg (We .far a)] [(true,We .own r)]):=by unfold wT;apply V6;intro b;exact VZ (DP Tryz.f49 [.ret [(false,[Ww 4 ((id a.f3).map Wi)])]] (AD (yN a.f3 b)<|AN))
theorem wE (a:GRun)(h:ab.sm a):Does E 49 [.agg (We .far a)] [(true,We .own (id a))]:=by have:=h.2.2.1;exact Nk a _ (by unfold wT;(first|rw[Wz (by omega)]|rw[Wz (by simp;omega)]);rfl)
inductive yw where|x0 (v5_4:List GState)
def fY (q0:Kd)(v2_0 v2_1:Zz)(v2_2 v2_3:Int)(v2_4:Bool)(a:List GTask)(b:Zz)(c d e:Int)(f:List GState)(g:Zz)(h i j:Int)(v5_4:List GState)(v6:List Int)(v7:Int):US:=stL 74 [(2,.box () [tS v2_0,tS v2_1,tI v2_2,tI v2_3,tB v2_4,Wx 5 (a.map (Wj q0))]),(4,.box () [tS b,tI c,tI d,tI e,Ww 4 (f.map Wi)]),(5,.box () [tS g,tI h,tI i,tI j,Ww 4 (v5_4.map Wi)]),(6,.one (Ww 1 (v6.map etI))),(7,Wr v7)]
def pR (q0:Kd)(b:Zz)(c d e:Int)(f:List GState)(g:Zz)(h i j:Int)(a:List GState):US:=stL 74 [(4,.box () [tS b,tI c,tI d,tI e,Ww 4 (f.map Wi)]),(5,.box () [tS g,tI h,tI i,tI j,Ww 4 (a.map Wi)])]
abbrev nW:US→Exit→US→Prop:=Round E 42 (aq Tryz.f42 0)
def G5 {q0:Kd}(v2_0 v2_1:Zz)(v2_2 v2_3:Int)(v2_4:Bool)(k:List GTask)(a:Zz)(b c d:Int)(e:List GState)(f:Zz)(g h i:Int)(v5_4:List GState)(v6:List Int)(v7:Int):yw→Prop| .x0 j=>Loops E 42 (aq Tryz.f42 0) (fY q0 v2_0 v2_1 v2_2 v2_3 v2_4 k a b c d e f g h i v5_4 v6 v7) (.exit 0) (pR q0 a b c d e f g h i j)
noncomputable def eR (v2_0 v2_1:Zz)(v2_2 v2_3:Int)(a:List GTask)(b:Zz)(c d e:Int):List Int→Nat→Bool→(List GState)→Option yw|[],i,v2_4,v5_4=>some (.x0 v5_4)|hd::rest,i,v2_4,v5_4=>if ab.sm (GDag.mk v2_0 v2_1 v2_2 v2_3 v2_4 a)then if aY (GDag.mk v2_0 v2_1 v2_2 v2_3 v2_4 a)=true then if(GRun.mk b (GSpan.mk c d) e v5_4).f3.length=(GDag.mk v2_0 v2_1 v2_2 v2_3 v2_4 a).f5.length then if 0≤hd∧hd<((GDag.mk v2_0 v2_1 v2_2 v2_3 v2_4 a).f5.length:Int)then cond ((ax (GDag.mk v2_0 v2_1 v2_2 v2_3 v2_4 a) (GRun.mk b (GSpan.mk c d) e v5_4) hd).2) ((ar v5_4 hd).bind fun g1=>cond (g1.f0==(0:Int)) (eR v2_0 v2_1 v2_2 v2_3 a b c d e rest (i+1) v2_4 (v5_4.set hd.toNat (GState.mk 4 g1.f1 g1.f2 0))) (eR v2_0 v2_1 v2_2 v2_3 a b c d e rest (i+1) v2_4 v5_4)) (eR v2_0 v2_1 v2_2 v2_3 a b c d e rest (i+1) v2_4 v5_4)else none else none else none else none
theorem G4 {q0:Kd}(v2_0 v2_1:Zz)(v2_2 v2_3:Int)(e:List GTask)(f:Zz)(g h j:Int)(l:List GState)(a:Zz)(b c d:Int)(v6:List Int)(rest:List Int):∀(i:Nat)(v2_4:Bool)(v5_4:List GState),(v6).drop i=rest→v6.length≤9223372036854775807→Ans (eR v2_0 v2_1 v2_2 v2_3 e a b c d rest i v2_4 v5_4) (G5 (q0:=q0) v2_0 v2_1 v2_2 v2_3 v2_4 e f g h j l a b c d v5_4 v6 (i:Int)):=by
 induction rest with
 |nil =>intro i v2_4 v5_4 o q;have hb:=aP o;unfold eR;exact VZ (V3 (show nW (fY q0 v2_0 v2_1 v2_2 v2_3 v2_4 e f g h j l a b c d v5_4 v6 (i:Int)) (.exit 0) (pR q0 f g h j l a b c d v5_4)from RP [Wu (v6.length:Int),.b false] (ALn v6 etI<|AC hb<|AN)))
 |cons hd rest u =>
  intro i v2_4 v5_4 o q;have hb:=aI o;have v:=aJ o q;have m:=az o;have n:=aK o;unfold eR;apply V6;intro w;apply V6;intro x;apply V6;intro z;apply V6;intro A;apply V4<;>intro B
  ·apply V5;intro g1 s;apply V4<;>intro D
   ·exact(u (i+1) v2_4 (v5_4.set hd.toNat (GState.mk 4 g1.f1 g1.f2 0)) m q).mono fun y t=>by have r:nW (fY q0 v2_0 v2_1 v2_2 v2_3 v2_4 e f g h j l a b c d v5_4 v6 (i:Int)) .normal (fY q0 v2_0 v2_1 v2_2 v2_3 v2_4 e f g h j l a b c d (v5_4.set hd.toNat (GState.mk 4 g1.f1 g1.f2 0)) v6 (inc (i:Int))):=RP [Wu (v6.length:Int),.b true,.row (etI hd),.ret [Wp ((ax (GDag.mk v2_0 v2_1 v2_2 v2_3 v2_4 e) (GRun.mk a (GSpan.mk b c) d v5_4) hd).1),Wp true],.row (etI hd),.row (Wi g1),.b true,.row (etI hd),.row (Wi g1),.rows ((v5_4.set hd.toNat (GState.mk 4 g1.f1 g1.f2 g1.f3)).map Wi),.row (etI hd),.row (Wi (GState.mk 4 g1.f1 g1.f2 g1.f3)),.rows ((v5_4.set hd.toNat (GState.mk 4 g1.f1 g1.f2 0)).map Wi)] (ALn v6 etI<|AC hb<|AG etI n<|AV (ψ:=fun k=>E.C k 40 [.agg (Wc .far q0 (GDag.mk v2_0 v2_1 v2_2 v2_3 v2_4 e)),.agg (We .far (GRun.mk a (GSpan.mk b c) d v5_4)),Wr hd]=some [Wp ((ax (GDag.mk v2_0 v2_1 v2_2 v2_3 v2_4 e) (GRun.mk a (GSpan.mk b c) d v5_4) hd).1),Wp true]) (V7 (bA (GDag.mk v2_0 v2_1 v2_2 v2_3 v2_4 e) (GRun.mk a (GSpan.mk b c) d v5_4) hd w x z A) (by rw[B]))<|AG etI n<|AG Wi s<|AC D<|AG etI n<|AG Wi s<|AC (p:=(v5_4.map Wi).set (0+hd.toNat) (au (Wi g1) 0 [tI 4])=(v5_4.set hd.toNat (GState.mk 4 g1.f1 g1.f2 g1.f3)).map Wi) (cu (by rfl))<|AG etI n<|AC (p:=0≤hd∧hd<(((v5_4.set hd.toNat (GState.mk 4 g1.f1 g1.f2 g1.f3)).map Wi).length:Int)) (di (aT s))<|AC (p:=((v5_4.set hd.toNat (GState.mk 4 g1.f1 g1.f2 g1.f3)).map Wi)[0+hd.toNat]?=some (Wi (GState.mk 4 g1.f1 g1.f2 g1.f3))) (bC (aT s))<|AC (p:=((v5_4.set hd.toNat (GState.mk 4 g1.f1 g1.f2 g1.f3)).map Wi).set (0+hd.toNat) (au (Wi (GState.mk 4 g1.f1 g1.f2 g1.f3)) 3 [tI 0])=(v5_4.set hd.toNat (GState.mk 4 g1.f1 g1.f2 0)).map Wi) (dt (by rfl))<|AN);rw[v]at r;cases y<;>exact V2 r t
   ·exact(u (i+1) v2_4 v5_4 m q).mono fun y t=>by have r:nW (fY q0 v2_0 v2_1 v2_2 v2_3 v2_4 e f g h j l a b c d v5_4 v6 (i:Int)) .normal (fY q0 v2_0 v2_1 v2_2 v2_3 v2_4 e f g h j l a b c d v5_4 v6 (inc (i:Int))):=RP [Wu (v6.length:Int),.b true,.row (etI hd),.ret [Wp ((ax (GDag.mk v2_0 v2_1 v2_2 v2_3 v2_4 e) (GRun.mk a (GSpan.mk b c) d v5_4) hd).1),Wp true],.row (etI hd),.row (Wi g1),.b false] (ALn v6 etI<|AC hb<|AG etI n<|AV (ψ:=fun k=>E.C k 40 [.agg (Wc .far q0 (GDag.mk v2_0 v2_1 v2_2 v2_3 v2_4 e)),.agg (We .far (GRun.mk a (GSpan.mk b c) d v5_4)),Wr hd]=some [Wp ((ax (GDag.mk v2_0 v2_1 v2_2 v2_3 v2_4 e) (GRun.mk a (GSpan.mk b c) d v5_4) hd).1),Wp true]) (V7 (bA (GDag.mk v2_0 v2_1 v2_2 v2_3 v2_4 e) (GRun.mk a (GSpan.mk b c) d v5_4) hd w x z A) (by rw[B]))<|AG etI n<|AG Wi s<|AC D<|AN);rw[v]at r;cases y<;>exact V2 r t
  ·exact(u (i+1) v2_4 v5_4 m q).mono fun y t=>by have r:nW (fY q0 v2_0 v2_1 v2_2 v2_3 v2_4 e f g h j l a b c d v5_4 v6 (i:Int)) .normal (fY q0 v2_0 v2_1 v2_2 v2_3 v2_4 e f g h j l a b c d v5_4 v6 (inc (i:Int))):=RP [Wu (v6.length:Int),.b true,.row (etI hd),.ret [Wp ((ax (GDag.mk v2_0 v2_1 v2_2 v2_3 v2_4 e) (GRun.mk a (GSpan.mk b c) d v5_4) hd).1),Wp false]] (ALn v6 etI<|AC hb<|AG etI n<|AV (ψ:=fun k=>E.C k 40 [.agg (Wc .far q0 (GDag.mk v2_0 v2_1 v2_2 v2_3 v2_4 e)),.agg (We .far (GRun.mk a (GSpan.mk b c) d v5_4)),Wr hd]=some [Wp ((ax (GDag.mk v2_0 v2_1 v2_2 v2_3 v2_4 e) (GRun.mk a (GSpan.mk b c) d v5_4) hd).1),Wp false]) (V7 (bA (GDag.mk v2_0 v2_1 v2_2 v2_3 v2_4 e) (GRun.mk a (GSpan.mk b c) d v5_4) hd w x z A) (by rw[B]))<|AN);rw[v]at r;cases y<;>exact V2 r t
noncomputable def pn (a:GDag)(b:GRun):Option (GRun):=
  if ab.sm b then if ab.sm a then cond (aY a)
   (cond ((b.f3.length:Int) != (a.f5.length:Int))
    (some ((id b)))
    (if ab.sm a.f5 then if df a.f5 then if(cn a.f5).length≤9223372036854775807 then(eR a.f0 a.f1 a.f2 a.f3 a.f5 ((id b).f0) (((id b).f1).f0) (((id b).f1).f1) ((id b).f2) (cn a.f5) 0 a.f4 ((id b).f3)).bind fun y=>match y with
     | .x0 c=>(some ((GRun.mk ((id b).f0) ((id b).f1) ((id b).f2) c)))else none else none else none))
   (some ((id b)))else none else none
theorem Jp {q0:Kd}(x0:GDag)(a:GRun):Ans (pn x0 a) (fun r=>Does E 42 [.agg (Wc .far q0 x0),.agg (We .far a)] [(true,We .own r)]):=by
 unfold pn;apply V6;intro c;apply V6;intro d;apply V4<;>intro e
 ·apply V4<;>intro h
  ·exact VZ (DP Tryz.f42 [.ret [(true,We .own (id a))],rT,Wu (a.f3.length:Int),Wu (x0.f5.length:Int),.b true] (AD (jp a c)<|AV (ψ:=fun k=>E.C k 64 [.agg (Wc .far q0 x0)]=some [Wp true]) (V7 (lD x0 d) (by rw[e]))<|ALn a.f3 Wi<|ALn x0.f5 (Wj q0)<|AC h<|AN))
  ·apply V6;intro i;apply V6;intro j;apply V6;intro f;apply V5;intro y g;replace g:=G4 (q0:=q0) x0.f0 x0.f1 x0.f2 x0.f3 x0.f5 ByteArray.empty 0 0 0 ([]) ((id a).f0) (((id a).f1).f0) (((id a).f1).f1) ((id a).f2) (cn x0.f5) (cn x0.f5) 0 x0.f4 ((id a).f3) rfl f y g;cases y with
   |x0 b =>have l:=g;exact VZ (DP Tryz.f42 [.ret [(true,We .own (id a))],rT,Wu (a.f3.length:Int),Wu (x0.f5.length:Int),.b false,.ret [(false,[Ww 1 ((cn x0.f5).map etI)])],.lp (.exit 0) (pR q0 ByteArray.empty 0 0 0 ([]) ((id a).f0) (((id a).f1).f0) (((id a).f1).f1) ((id a).f2) b)] (AD (jp a c)<|AV (ψ:=fun k=>E.C k 64 [.agg (Wc .far q0 x0)]=some [Wp true]) (V7 (lD x0 d) (by rw[e]))<|ALn a.f3 Wi<|ALn x0.f5 (Wj q0)<|AC h<|AV (ψ:=fun k=>E.C k 67 [.one (Wx 5 (x0.f5.map (Wj q0)))]=some [(false,[Ww 1 ((cn x0.f5).map etI)])]) (uF x0.f5 i j)<|AL l<|AN))
 ·exact VZ (DP Tryz.f42 [.ret [(true,We .own (id a))],rF] (AD (jp a c)<|AV (ψ:=fun k=>E.C k 64 [.agg (Wc .far q0 x0)]=some [Wp false]) (V7 (lD x0 d) (by rw[e]))<|AN))
inductive sU where|x0 (v0_4:List GState)
def dx (q1:Kd)(a:Zz)(b c d:Int)(v0_4:List GState)(e v3_1:Zz)(v3_2 f:Int)(g:Bool)(v3_5:List GTask)(v9:List Int)(v10 v11:Int):US:=stL 51 [(0,.box () [tS a,tI b,tI c,tI d,Ww 4 (v0_4.map Wi)]),(3,.box () [tS e,tS v3_1,tI v3_2,tI f,tB g,Wx 5 (v3_5.map (Wj q1))]),(9,.one (Ww 1 (v9.map etI))),(10,Wr v10),(11,Wr v11)]
def lT (q1:Kd)(b:Zz)(c d e:Int)(a:List GState):US:=stL 51 [(0,.box () [tS b,tI c,tI d,tI e,Ww 4 (a.map Wi)])]
abbrev kA:US→Exit→US→Prop:=Round E 82 (aq Tryz.f82 0)
def Br {q1:Kd}(a:Zz)(b c d:Int)(v0_4:List GState)(f v3_1:Zz)(v3_2 g:Int)(h:Bool)(v3_5:List GTask)(v9:List Int)(v10 v11:Int):sU→Prop| .x0 e=>Loops E 82 (aq Tryz.f82 0) (dx q1 a b c d v0_4 f v3_1 v3_2 g h v3_5 v9 v10 v11) (.exit 0) (lT q1 a b c d e)
noncomputable def cT (d:Zz)(e f g:Int)(b v3_1:Zz)(v3_2 c:Int)(v3_5:List GTask):List Int→Nat→(List GState)→Bool→Option sU|[],i,v0_4,a=>some (.x0 v0_4)|hd::rest,i,v0_4,a=>if ab.sm (GDag.mk b v3_1 v3_2 c a v3_5)then if aY (GDag.mk b v3_1 v3_2 c a v3_5)=true then if(GRun.mk d (GSpan.mk e f) g v0_4).f3.length=(GDag.mk b v3_1 v3_2 c a v3_5).f5.length then if 0≤hd∧hd<((GDag.mk b v3_1 v3_2 c a v3_5).f5.length:Int)then cond ((bf (GDag.mk b v3_1 v3_2 c a v3_5) (GRun.mk d (GSpan.mk e f) g v0_4) hd).2) ((ar v0_4 hd).bind fun g1=>cond (g1.f0==(0:Int)) (cT d e f g b v3_1 v3_2 c v3_5 rest (i+1) (v0_4.set hd.toNat (GState.mk 4 g1.f1 g1.f2 0)) a) (cT d e f g b v3_1 v3_2 c v3_5 rest (i+1) v0_4 a)) (cT d e f g b v3_1 v3_2 c v3_5 rest (i+1) v0_4 a)else none else none else none else none
theorem Bq {q1:Kd}(b:Zz)(c d e:Int)(f v3_1:Zz)(v3_2 g:Int)(v3_5:List GTask)(v9:List Int)(rest:List Int):∀(i:Nat)(v0_4:List GState)(a:Bool),(v9).drop i=rest→v9.length≤9223372036854775807→Ans (cT b c d e f v3_1 v3_2 g v3_5 rest i v0_4 a) (Br (q1:=q1) b c d e v0_4 f v3_1 v3_2 g a v3_5 v9 (v9.length:Int) (i:Int)):=by
 induction rest with
 |nil =>intro i v0_4 a j l;have hb:=aP j;unfold cT;exact VZ (V3 (show kA (dx q1 b c d e v0_4 f v3_1 v3_2 g a v3_5 v9 (v9.length:Int) (i:Int)) (.exit 0) (lT q1 b c d e v0_4)from RP [.b false] (AC hb<|AN)))
 |cons hd rest o =>
  intro i v0_4 a j l;have hb:=aI j;have q:=aJ j l;have h:=az j;have s:=aK j;unfold cT;apply V6;intro t;apply V6;intro u;apply V6;intro v;apply V6;intro w;apply V4<;>intro x
  ·apply V5;intro g1 m;apply V4<;>intro z
   ·exact(o (i+1) (v0_4.set hd.toNat (GState.mk 4 g1.f1 g1.f2 0)) a h l).mono fun y n=>by have r:kA (dx q1 b c d e v0_4 f v3_1 v3_2 g a v3_5 v9 (v9.length:Int) (i:Int)) .normal (dx q1 b c d e (v0_4.set hd.toNat (GState.mk 4 g1.f1 g1.f2 0)) f v3_1 v3_2 g a v3_5 v9 (v9.length:Int) (inc (i:Int))):=RP [.b true,.row (etI hd),.ret [Wp ((bf (GDag.mk f v3_1 v3_2 g a v3_5) (GRun.mk b (GSpan.mk c d) e v0_4) hd).1),Wp true],.row (Wi g1),.b true,.row (Wi g1),.rows ((v0_4.set hd.toNat (GState.mk 4 g1.f1 g1.f2 g1.f3)).map Wi),.row (Wi (GState.mk 4 g1.f1 g1.f2 g1.f3)),.rows ((v0_4.set hd.toNat (GState.mk 4 g1.f1 g1.f2 0)).map Wi)] (AC hb<|AG etI s<|AV (ψ:=fun k=>E.C k 79 [.agg (Wc .far q1 (GDag.mk f v3_1 v3_2 g a v3_5)),.agg (We .far (GRun.mk b (GSpan.mk c d) e v0_4)),Wr hd,.fni 80 []]=some [Wp ((bf (GDag.mk f v3_1 v3_2 g a v3_5) (GRun.mk b (GSpan.mk c d) e v0_4) hd).1),Wp true]) (V7 (cA (GDag.mk f v3_1 v3_2 g a v3_5) (GRun.mk b (GSpan.mk c d) e v0_4) hd t u v w) (by rw[x]))<|AG Wi m<|AC z<|AG Wi m<|AC (p:=(v0_4.map Wi).set (0+hd.toNat) (au (Wi g1) 0 [tI 4])=(v0_4.set hd.toNat (GState.mk 4 g1.f1 g1.f2 g1.f3)).map Wi) (cu (by rfl))<|AC (p:=0≤hd∧hd<(((v0_4.set hd.toNat (GState.mk 4 g1.f1 g1.f2 g1.f3)).map Wi).length:Int)) (di (aT m))<|AC (p:=((v0_4.set hd.toNat (GState.mk 4 g1.f1 g1.f2 g1.f3)).map Wi)[0+hd.toNat]?=some (Wi (GState.mk 4 g1.f1 g1.f2 g1.f3))) (bC (aT m))<|AC (p:=((v0_4.set hd.toNat (GState.mk 4 g1.f1 g1.f2 g1.f3)).map Wi).set (0+hd.toNat) (au (Wi (GState.mk 4 g1.f1 g1.f2 g1.f3)) 3 [tI 0])=(v0_4.set hd.toNat (GState.mk 4 g1.f1 g1.f2 0)).map Wi) (dt (by rfl))<|AN);rw[q]at r;cases y<;>exact V2 r n
   ·exact(o (i+1) v0_4 a h l).mono fun y n=>by have r:kA (dx q1 b c d e v0_4 f v3_1 v3_2 g a v3_5 v9 (v9.length:Int) (i:Int)) .normal (dx q1 b c d e v0_4 f v3_1 v3_2 g a v3_5 v9 (v9.length:Int) (inc (i:Int))):=RP [.b true,.row (etI hd),.ret [Wp ((bf (GDag.mk f v3_1 v3_2 g a v3_5) (GRun.mk b (GSpan.mk c d) e v0_4) hd).1),Wp true],.row (Wi g1),.b false] (AC hb<|AG etI s<|AV (ψ:=fun k=>E.C k 79 [.agg (Wc .far q1 (GDag.mk f v3_1 v3_2 g a v3_5)),.agg (We .far (GRun.mk b (GSpan.mk c d) e v0_4)),Wr hd,.fni 80 []]=some [Wp ((bf (GDag.mk f v3_1 v3_2 g a v3_5) (GRun.mk b (GSpan.mk c d) e v0_4) hd).1),Wp true]) (V7 (cA (GDag.mk f v3_1 v3_2 g a v3_5) (GRun.mk b (GSpan.mk c d) e v0_4) hd t u v w) (by rw[x]))<|AG Wi m<|AC z<|AN);rw[q]at r;cases y<;>exact V2 r n
  ·exact(o (i+1) v0_4 a h l).mono fun y n=>by have r:kA (dx q1 b c d e v0_4 f v3_1 v3_2 g a v3_5 v9 (v9.length:Int) (i:Int)) .normal (dx q1 b c d e v0_4 f v3_1 v3_2 g a v3_5 v9 (v9.length:Int) (inc (i:Int))):=RP [.b true,.row (etI hd),.ret [Wp ((bf (GDag.mk f v3_1 v3_2 g a v3_5) (GRun.mk b (GSpan.mk c d) e v0_4) hd).1),Wp false]] (AC hb<|AG etI s<|AV (ψ:=fun k=>E.C k 79 [.agg (Wc .far q1 (GDag.mk f v3_1 v3_2 g a v3_5)),.agg (We .far (GRun.mk b (GSpan.mk c d) e v0_4)),Wr hd,.fni 80 []]=some [Wp ((bf (GDag.mk f v3_1 v3_2 g a v3_5) (GRun.mk b (GSpan.mk c d) e v0_4) hd).1),Wp false]) (V7 (cA (GDag.mk f v3_1 v3_2 g a v3_5) (GRun.mk b (GSpan.mk c d) e v0_4) hd t u v w) (by rw[x]))<|AN);rw[q]at r;cases y<;>exact V2 r n
noncomputable def kY (c:GRun)(a:GDag):Option (GRun):=
  if ab.sm a then if df a.f5 then if(cR a).length≤9223372036854775807 then(cT c.f0 c.f1.f0 c.f1.f1 c.f2 a.f0 a.f1 a.f2 a.f3 a.f5 (cR a) 0 c.f3 a.f4).bind fun y=>match y with
   | .x0 b=>(some ((GRun.mk c.f0 c.f1 c.f2 b)))else none else none else none
abbrev ZJ (a:GDag):=(false,[Ww 1 ((cR a).map etI)])
theorem CF {q1:Kd}(x0:GRun)(a:GDag):Ans (kY x0 a) (fun r=>Does E 82 [.box () (We .own x0),.agg (Wc .far q1 a)] [(true,We .own r)]):=by
 unfold kY;apply V6;intro e;apply V6;intro f;apply V6;intro c;apply V5;intro y d;replace d:=Bq (q1:=q1) x0.f0 x0.f1.f0 x0.f1.f1 x0.f2 a.f0 a.f1 a.f2 a.f3 a.f5 (cR a) (cR a) 0 x0.f3 a.f4 rfl c y d;cases y with
 |x0 b =>have g:=d;exact VZ (DP Tryz.f82 [.ret [(ZJ a)],Wu ((cR a).length:Int),.lp (.exit 0) (lT q1 x0.f0 x0.f1.f0 x0.f1.f1 x0.f2 b)] (AV (ψ:=fun k=>E.C k 103 [.agg (Wc .far q1 a)]=some [(ZJ a)]) (wF a e f)<|ALn (cR a) etI<|AL g<|AN))
noncomputable def rv (d:GDag)(g:GRun)(k:Int)(v:List GState):List GState :=
 cond (bf d (GRun.mk g.f0 (GSpan.mk g.f1.f0 g.f1.f1) g.f2 v) k).2 (match ar v k with|some x=>cond (x.f0==0) (v.set k.toNat ⟨4,x.f1,x.f2,0⟩) v|none=>v) v
noncomputable def gO (d:GDag)(g:GRun):List Int→List GState→List GState|[],v=>v|k::l,v=>gO d g l (rv d g k v)
noncomputable def jO (r:GRun)(d:GDag):GRun:=⟨r.f0,r.f1,r.f2,gO d r (cn d.f5) r.f3⟩
noncomputable def kr (d:GDag)(r:GRun):GRun:=cond (aY d&&((r.f3.length:Int)==(d.f5.length:Int))) (jO r d) r
theorem AW (d:GDag)(g:GRun)(k:Int)(v:List GState):(rv d g k v).length=v.length:=by
 unfold rv;cases(bf d (GRun.mk g.f0 (GSpan.mk g.f1.f0 g.f1.f1) g.f2 v) k).2 with
 |false=>rfl
 |true =>
  cases q:ar v k with
  |none=>rfl
  |some x =>show(cond (x.f0==0) (v.set k.toNat ⟨4,x.f1,x.f2,0⟩) v).length=v.length;cases x.f0==0<;>simp
theorem CT (d:GDag)(g:GRun):∀(l:List Int)(v:List GState),(gO d g l v).length=v.length
 |[],v=>rfl
 |k::l,v=>by unfold gO;rw[CT d g l,AW]
theorem Gb (d:GDag)(g:GRun)(h:ab.sm d)(hd:aY d=true):∀(l:List Int)(i:Nat)(v:List GState),v.length=d.f5.length→(∀x∈l,0≤x∧x<(d.f5.length:Int)) →
  eR d.f0 d.f1 d.f2 d.f3 d.f5 g.f0 g.f1.f0 g.f1.f1 g.f2 l i d.f4 v=some (.x0 (gO d g l v)) ∧
  cT g.f0 g.f1.f0 g.f1.f1 g.f2 d.f0 d.f1 d.f2 d.f3 d.f5 l i v d.f4=some (.x0 (gO d g l v))
 |[],i,v,_,_=>⟨rfl,rfl⟩
 |k::l,i,v,hv,b=>by
  have j:=b k (by simp);have e:GDag.mk d.f0 d.f1 d.f2 d.f3 d.f4 d.f5=d:=rfl;have a:(GRun.mk g.f0 (GSpan.mk g.f1.f0 g.f1.f1) g.f2 v).f3.length=d.f5.length:=hv;have m:ax d (GRun.mk g.f0 (GSpan.mk g.f1.f0 g.f1.f1) g.f2 v) k=((bX d (GRun.mk g.f0 (GSpan.mk g.f1.f0 g.f1.f1) g.f2 v) k).1,(bf d (GRun.mk g.f0 (GSpan.mk g.f1.f0 g.f1.f1) g.f2 v) k).2):=rfl;have c:=Gb d g h hd l (i+1) (rv d g k v) (by rw[AW];exact hv) fun y n=>b y (by simp[n])
  obtain⟨x,f,_⟩:=eK (l:=v) (k:=k) (by omega);unfold eR cT gO;simp only[e,Wz h,Wz hd,Wz a,Wz j,m];rw[←c.1];refine⟨?_,?_⟩
  ·unfold rv;cases(bf d (GRun.mk g.f0 (GSpan.mk g.f1.f0 g.f1.f1) g.f2 v) k).2 with
   |false=>rfl
   |true =>simp only[f,Wy,WK];cases x.f0==0<;>rfl
  ·rw[←c.2];unfold rv;cases(bf d (GRun.mk g.f0 (GSpan.mk g.f1.f0 g.f1.f1) g.f2 v) k).2 with
   |false=>rfl
   |true =>simp only[f,Wy,WK];cases x.f0==0<;>rfl
theorem Pb (r:GRun)(d:GDag)(h:ab.sm d)(hd:aY d=true)(b:r.f3.length=d.f5.length):kY r d=some (jO r d):=by obtain⟨f, -, -,a,c⟩:=rx hd;have e:cR d=cn d.f5:=rfl;unfold kY;rw[Wz h,Wz a,e,c,Wz (by omega),(Gb d r h hd (cn d.f5) 0 r.f3 b (BU a).2).2];rfl
theorem MR (d:GDag)(r:GRun)(h:ab.sm d)(g:ab.sm r):pn d r=some (kr d r):=by
 unfold pn kr;rw[Wz g,Wz h];cases q:aY d with
 |false=>rfl
 |true =>
  have e:((r.f3.length:Int) != (d.f5.length:Int))= !((r.f3.length:Int)==(d.f5.length:Int)):=rfl;rw[e];cases b:((r.f3.length:Int)==(d.f5.length:Int))with
  |false=>rfl
  |true =>
   have c:r.f3.length=d.f5.length:=by rw[Yc]at b;omega
   obtain⟨f, -, -,a,i⟩:=rx q;have hs:ab.sm d.f5:=h.2.2;simp only[id,Xq,WO,WK,Xa,Wz hs,Wz a];rw[Wz (by omega),(Gb d r h q (cn d.f5) 0 r.f3 c (BU a).2).1];rfl
theorem Iz {q0:Kd}(a:GDag)(b:GRun)(h:ab.sm a)(g:ab.sm b):Does E 42 [.agg (Wc .far q0 a),.agg (We .far b)] [(true,We .own (kr a b))]:=by exact Jp a b _ (MR a b h g)
theorem CC {q1:Kd}(b:GRun)(a:GDag)(h:ab.sm a)(g:ab.sm b)(hd:aY a=true)(c:b.f3.length=a.f5.length):Does E 82 [.box () (We .own b),.agg (Wc .far q1 a)] [(true,We .own (jO b a))]:=by exact CF b a _ (Pb b a h hd c)
inductive E9 where|x2 (v5:List Int)
def nK (q0:Kd)(v1:Int)(v2_0 v2_1:Zz)(v2_2 v2_3:Int)(v2_4:Bool)(a:List GTask)(v5:List Int)(v7:Int)(v11:List Int)(b c:Int)(d:List Int)(v20 v21:Int):US:=stL 42 [(1,Wr v1),(2,.box () [tS v2_0,tS v2_1,tI v2_2,tI v2_3,tB v2_4,Wx 5 (a.map (Wj q0))]),(5,.one (Ww 1 (v5.map etI))),(7,Wr v7),(11,.one (Ww 1 (v11.map etI))),(12,Wr b),(13,Wr c),(19,.one (Ww 1 (d.map etI))),(20,Wr v20),(21,Wr v21)]
def m7 (q0:Kd)(v1:Int)(v2_0 v2_1:Zz)(v2_2 v2_3:Int)(v2_4:Bool)(a:List GTask)(v11:List Int)(b c:Int)(d:List Int):US:=stL 42 [(1,Wr v1),(2,.box () [tS v2_0,tS v2_1,tI v2_2,tI v2_3,tB v2_4,Wx 5 (a.map (Wj q0))]),(5,.one (Ww 1 (d.map etI))),(11,.one (Ww 1 (v11.map etI))),(12,Wr b),(13,Wr c)]
abbrev ud:US→Exit→US→Prop:=Round E 81 (aq Tryz.f81 1)
def PU {q0:Kd}(v1:Int)(v2_0 v2_1:Zz)(v2_2 v2_3:Int)(v2_4:Bool)(a:List GTask)(v5:List Int)(v7:Int)(v11:List Int)(b c:Int)(d:List Int)(v20 v21:Int):E9→Prop| .x2 e=>Loops E 81 (aq Tryz.f81 1) (nK q0 v1 v2_0 v2_1 v2_2 v2_3 v2_4 a v5 v7 v11 b c d v20 v21) (.exit 2) (m7 q0 v1 v2_0 v2_1 v2_2 v2_3 v2_4 a v11 b c e)
noncomputable def lU (v1:Int)(v5:List Int)(v7:Int):List Int→Nat→Bool→Option E9|[],i,v2_4=>some (.x2 v5)|hd::rest,i,v2_4=>cond (hd==v1) (if(v5.length+([v7]).length)*8≤140737488355328∧v5.length+([v7]).length≤4611686018427387904 then some (.x2 (v5++([v7])))else none) (if v5.length≤1050000 then cond (cC v5 hd) (if(v5.length+([v7]).length)*8≤140737488355328∧v5.length+([v7]).length≤4611686018427387904 then some (.x2 (v5++([v7])))else none) (lU v1 v5 v7 rest (i+1) v2_4)else none)
theorem PS {q0:Kd}(v1:Int)(v2_0 v2_1:Zz)(v2_2 v2_3:Int)(a:List GTask)(v5:List Int)(v7:Int)(v11:List Int)(c d:Int)(b:List Int)(rest:List Int):∀(i:Nat)(v2_4:Bool),(b).drop i=rest→b.length≤9223372036854775807→Ans (lU v1 v5 v7 rest i v2_4) (PU (q0:=q0) v1 v2_0 v2_1 v2_2 v2_3 v2_4 a v5 v7 v11 c d b (b.length:Int) (i:Int)):=by
 induction rest with
 |nil =>intro i v2_4 e g;have hb:=aP e;unfold lU;exact VZ (V3 (show ud (nK q0 v1 v2_0 v2_1 v2_2 v2_3 v2_4 a v5 v7 v11 c d b (b.length:Int) (i:Int)) (.exit 2) (m7 q0 v1 v2_0 v2_1 v2_2 v2_3 v2_4 a v11 c d v5)from RP [.b false] (AC hb<|AN)))
 |cons hd rest n =>
  intro i v2_4 e g;have hb:=aI e;have o:=aJ e g;have h:=az e;have j:=aK e;unfold lU;apply V4<;>intro l
  ·apply V6;intro f;exact VZ (V3 (show ud (nK q0 v1 v2_0 v2_1 v2_2 v2_3 v2_4 a v5 v7 v11 c d b (b.length:Int) (i:Int)) (.exit 2) (m7 q0 v1 v2_0 v2_1 v2_2 v2_3 v2_4 a v11 c d (v5++([v7])))from RP [.b true,.row (etI hd),.b true,.rows ((v5++([v7])).map etI)] (AC hb<|AG etI j<|AC l<|AAp etI (fun _=>rfl) f<|AN)))
  ·apply V6;intro f;apply V4<;>intro m
   ·apply V6;intro p;exact VZ (V3 (show ud (nK q0 v1 v2_0 v2_1 v2_2 v2_3 v2_4 a v5 v7 v11 c d b (b.length:Int) (i:Int)) (.exit 2) (m7 q0 v1 v2_0 v2_1 v2_2 v2_3 v2_4 a v11 c d (v5++([v7])))from RP [.b true,.row (etI hd),.b false,rT,.rows ((v5++([v7])).map etI)] (AC hb<|AG etI j<|AC l<|AV (ψ:=fun k=>E.C k 104 [.one (Wx 1 (((v5.map etI).drop 0).take (v5.map etI).length)),Wr hd]=some [Wp true]) (V8 (by simp only[Xb,W9]) (V7 (ek v5 hd f) (by rw[m])))<|AAp etI (fun _=>rfl) p<|AN)))
   ·exact(n (i+1) v2_4 h g).mono fun y q=>by have r:ud (nK q0 v1 v2_0 v2_1 v2_2 v2_3 v2_4 a v5 v7 v11 c d b (b.length:Int) (i:Int)) .normal (nK q0 v1 v2_0 v2_1 v2_2 v2_3 v2_4 a v5 v7 v11 c d b (b.length:Int) (inc (i:Int))):=RP [.b true,.row (etI hd),.b false,rF] (AC hb<|AG etI j<|AC l<|AV (ψ:=fun k=>E.C k 104 [.one (Wx 1 (((v5.map etI).drop 0).take (v5.map etI).length)),Wr hd]=some [Wp false]) (V8 (by simp only[Xb,W9]) (V7 (ek v5 hd f) (by rw[m])))<|AN);rw[o]at r;cases y<;>exact V2 r q
inductive E8 where|x0 (v5:List Int)
def ue (q0:Kd)(v1:Int)(v2_0 v2_1:Zz)(v2_2 v2_3:Int)(v2_4:Bool)(a:List GTask)(v5 v11:List Int)(b c:Int):US:=stL 42 [(1,Wr v1),(2,.box () [tS v2_0,tS v2_1,tI v2_2,tI v2_3,tB v2_4,Wx 5 (a.map (Wj q0))]),(5,.one (Ww 1 (v5.map etI))),(11,.one (Ww 1 (v11.map etI))),(12,Wr b),(13,Wr c)]
def uU (q0:Kd)(a:List Int):US:=stL 42 [(5,.one (Ww 1 (a.map etI)))]
abbrev E7:US→Exit→US→Prop:=Round E 81 (aq Tryz.f81 0)
def PT {q0:Kd}(v1:Int)(v2_0 v2_1:Zz)(v2_2 v2_3:Int)(v2_4:Bool)(a:List GTask)(v5 v11:List Int)(b c:Int):E8→Prop| .x0 d=>Loops E 81 (aq Tryz.f81 0) (ue q0 v1 v2_0 v2_1 v2_2 v2_3 v2_4 a v5 v11 b c) (.exit 0) (uU q0 d)
noncomputable def kB (v1:Int)(v2_0 v2_1:Zz)(v2_2 v2_3:Int)(a:List GTask):List Int→Nat→Bool→(List Int)→Option E8
 |[],i,v2_4,v5=>some (.x0 v5)
 |hd::rest,i,v2_4,v5=>if ab.sm (GDag.mk v2_0 v2_1 v2_2 v2_3 v2_4 a)then if aY (GDag.mk v2_0 v2_1 v2_2 v2_3 v2_4 a)=true then if 0≤hd∧hd<((GDag.mk v2_0 v2_1 v2_2 v2_3 v2_4 a).f5.length:Int)then if(ups (GDag.mk v2_0 v2_1 v2_2 v2_3 v2_4 a) hd).length≤9223372036854775807 then(lU v1 v5 hd (ups (GDag.mk v2_0 v2_1 v2_2 v2_3 v2_4 a) hd) 0 v2_4).bind fun y=>match y with
  | .x2 b=>(kB v1 v2_0 v2_1 v2_2 v2_3 a rest (i+1) v2_4 b)else none else none else none else none
theorem PR {q0:Kd}(v1:Int)(v2_0 v2_1:Zz)(v2_2 v2_3:Int)(a:List GTask)(v11:List Int)(rest:List Int):∀(i:Nat)(v2_4:Bool)(v5:List Int),(v11).drop i=rest→v11.length≤9223372036854775807→Ans (kB v1 v2_0 v2_1 v2_2 v2_3 a rest i v2_4 v5) (PT (q0:=q0) v1 v2_0 v2_1 v2_2 v2_3 v2_4 a v5 v11 (v11.length:Int) (i:Int)):=by
 induction rest with
 |nil =>intro i v2_4 v5 c e;have hb:=aP c;unfold kB;exact VZ (V3 (show E7 (ue q0 v1 v2_0 v2_1 v2_2 v2_3 v2_4 a v5 v11 (v11.length:Int) (i:Int)) (.exit 0) (uU q0 v5)from RP [.b false] (AC hb<|AN)))
 |cons hd rest h =>
  intro i v2_4 v5 c e;have hb:=aI c;have j:=aJ c e;have f:=az c;have l:=aK c;unfold kB;apply V6;intro m;apply V6;intro n;apply V6;intro o;apply V6;intro g;apply V5;intro y d;replace d:=PS (q0:=q0) v1 v2_0 v2_1 v2_2 v2_3 a v5 hd v11 (v11.length:Int) (i:Int) (ups (GDag.mk v2_0 v2_1 v2_2 v2_3 v2_4 a) hd) (ups (GDag.mk v2_0 v2_1 v2_2 v2_3 v2_4 a) hd) 0 v2_4 rfl g y d;cases y with
  |x2 b =>have p:=d;exact(h (i+1) v2_4 b f e).mono fun y d=>by have r:E7 (ue q0 v1 v2_0 v2_1 v2_2 v2_3 v2_4 a v5 v11 (v11.length:Int) (i:Int)) .normal (ue q0 v1 v2_0 v2_1 v2_2 v2_3 v2_4 a b v11 (v11.length:Int) (inc (i:Int))):=RP [.b true,.row (etI hd),.ret [(false,[Ww 1 ((ups (GDag.mk v2_0 v2_1 v2_2 v2_3 v2_4 a) hd).map etI)])],Wu ((ups (GDag.mk v2_0 v2_1 v2_2 v2_3 v2_4 a) hd).length:Int),.lp (.exit 2) (m7 q0 v1 v2_0 v2_1 v2_2 v2_3 v2_4 a v11 (v11.length:Int) (i:Int) b)] (AC hb<|AG etI l<|AV (ψ:=fun k=>E.C k 102 [.agg (Wc .far q0 (GDag.mk v2_0 v2_1 v2_2 v2_3 v2_4 a)),Wr hd]=some [(false,[Ww 1 ((ups (GDag.mk v2_0 v2_1 v2_2 v2_3 v2_4 a) hd).map etI)])]) (F5 (GDag.mk v2_0 v2_1 v2_2 v2_3 v2_4 a) hd m n o)<|ALn (ups (GDag.mk v2_0 v2_1 v2_2 v2_3 v2_4 a) hd) etI<|AL p<|AN);rw[j]at r;cases y<;>exact V2 r d
noncomputable def qb (a:GDag)(c:Int):Option ((List Int)):=
  if ab.sm a then if df a.f5 then if(cR a).length≤9223372036854775807 then(kB c a.f0 a.f1 a.f2 a.f3 a.f5 (cR a) 0 a.f4 ([])).bind fun y=>match y with
   | .x0 b=>(if b.length<4611686018427387904 then some (dj b)else none)else none else none else none
theorem RB {q0:Kd}(x0:GDag)(b:Int):Ans (qb x0 b) (fun r=>Does E 81 [.agg (Wc .far q0 x0),Wr b] [(false,[Ww 1 (r.map etI)])]):=by
 unfold qb;apply V6;intro e;apply V6;intro f;apply V6;intro c;apply V5;intro y d;replace d:=PR (q0:=q0) b x0.f0 x0.f1 x0.f2 x0.f3 x0.f5 (cR x0) (cR x0) 0 x0.f4 ([]) rfl c y d;cases y with
 |x0 a =>have g:=d;apply V6;intro h;exact VZ (DP Tryz.f81 [.ret [(ZJ x0)],Wu ((cR x0).length:Int),.lp (.exit 0) (uU q0 a),.ret [(false,[Ww 1 ((dj a).map etI)])]] (AV (ψ:=fun k=>E.C k 103 [.agg (Wc .far q0 x0)]=some [(ZJ x0)]) (wF x0 e f)<|ALn (cR x0) etI<|AL g<|AC (p:=(a.map etI).length=(a.map etI).length) rfl<|AV (ψ:=fun k=>E.C k 105 [.one (Ww 1 (a.map etI))]=some [(false,[Ww 1 ((dj a).map etI)])]) (ow a h)<|AN))
inductive B7 where|x4 (v5:List Int)
def eA (q0:Kd)(v5:List Int)(v7:List Bool)(v11:Int):US:=stL 96 [(5,.one (Ww 1 (v5.map etI))),(7,.one (Ww 1 (v7.map etB))),(11,Wr v11)]
def ob (q0:Kd)(a:List Int):US:=stL 96 [(5,.one (Ww 1 (a.map etI)))]
abbrev lq:US→Exit→US→Prop:=Round E 41 (aq Tryz.f41 2)
def LZ {q0:Kd}(v5:List Int)(v7:List Bool)(v11:Int):B7→Prop| .x4 a=>Loops E 41 (aq Tryz.f41 2) (eA q0 v5 v7 v11) (.exit 4) (ob q0 a)
theorem Hd {q0:Kd}(v5:List Int)(v7:List Bool)(v11:Int)(a:Bool)(c:(decide (v11<(v7.length:Int)))=true)(b:ar v7 v11=some a)(d:a=true)(e:(v5.length+([v11]).length)*8≤140737488355328∧v5.length+([v11]).length≤4611686018427387904):lq (eA q0 v5 v7 v11) .normal (eA q0 (v5++([v11])) v7 (inc v11)):=
 RP [Wu (v7.length:Int),.b true,.row ([tB true]),.rows ((v5++([v11])).map etI)] (ALn v7 etB<|AC c<|AC (p:=0≤v11∧v11<((v7.map etB).length:Int)) (di b)<|AC (p:=(v7.map etB)[0+v11.toNat]?=some ([tB true])) ((bC b).trans (WV some (show [tB a]=[tB true] by rw[d])))<|AAp etI (fun _=>rfl) e<|AN)
theorem He {q0:Kd}(v5:List Int)(v7:List Bool)(v11:Int)(a:Bool)(c:(decide (v11<(v7.length:Int)))=true)(b:ar v7 v11=some a)(d:a=false):lq (eA q0 v5 v7 v11) .normal (eA q0 v5 v7 (inc v11)):=
 RP [Wu (v7.length:Int),.b true,.row ([tB false])] (ALn v7 etB<|AC c<|AC (p:=0≤v11∧v11<((v7.map etB).length:Int)) (di b)<|AC (p:=(v7.map etB)[0+v11.toNat]?=some ([tB false])) ((bC b).trans (WV some (show [tB a]=[tB false] by rw[d])))<|AN)
theorem Hf {q0:Kd}(v5:List Int)(v7:List Bool)(v11:Int)(a:(decide (v11<(v7.length:Int)))=false):lq (eA q0 v5 v7 v11) (.exit 4) (ob q0 v5):=
 RP [Wu (v7.length:Int),.b false] (ALn v7 etB<|AC a<|AN)
noncomputable def iI  : List Bool→Nat→(List Int)→Option B7|[],i,v5=>some (.x4 v5)|hd::rest,i,v5=>cond (hd) (if(v5.length+([(i:Int)]).length)*8≤140737488355328∧v5.length+([(i:Int)]).length≤4611686018427387904 then iI rest (i+1) (v5++([(i:Int)]))else none) (iI rest (i+1) v5)
theorem LX {q0:Kd}(v7:List Bool)(rest:List Bool):∀(i:Nat)(v5:List Int),(v7).drop i=rest→v7.length≤9223372036854775807→Ans (iI rest i v5) (LZ (q0:=q0) v5 v7 (i:Int)):=by
 induction rest with
 |nil =>intro i v5 a c;have hb:=aP a;unfold iI;exact VZ (V3 (show lq (eA q0 v5 v7 (i:Int)) (.exit 4) (ob q0 v5)from Hf (q0:=q0) v5 v7 (i:Int) hb))
 |cons hd rest e =>
  intro i v5 a c;have hb:=aI a;have f:=aJ a c;have b:=az a;have g:=aK a;unfold iI;apply V4<;>intro h
  ·apply V6;intro j;exact(e (i+1) (v5++([(i:Int)])) b c).mono fun y d=>by have r:lq (eA q0 v5 v7 (i:Int)) .normal (eA q0 (v5++([(i:Int)])) v7 (inc (i:Int))):=Hd (q0:=q0) v5 v7 (i:Int) hd hb g h j;rw[f]at r;cases y<;>exact V2 r d
  ·exact(e (i+1) v5 b c).mono fun y d=>by have r:lq (eA q0 v5 v7 (i:Int)) .normal (eA q0 v5 v7 (inc (i:Int))):=He (q0:=q0) v5 v7 (i:Int) hd hb g h;rw[f]at r;cases y<;>exact V2 r d
inductive B6 where|x2 (v7:List Bool)
def cF (q0:Kd)(v1:Int)(v2_0 v2_1:Zz)(v2_2 v2_3:Int)(v2_4:Bool)(a:List GTask)(v5 v6:List Int)(v7:List Bool)(v8:Int)(v9:List Int)(v10:Int):US:=stL 96 [(1,Wr v1),(2,.box () [tS v2_0,tS v2_1,tI v2_2,tI v2_3,tB v2_4,Wx 5 (a.map (Wj q0))]),(5,.one (Ww 1 (v5.map etI))),(6,.one (Ww 1 (v6.map etI))),(7,.one (Ww 1 (v7.map etB))),(8,Wr v8),(9,.one (Ww 1 (v9.map etI))),(10,Wr v10)]
def oa (q0:Kd)(v1:Int)(v2_0 v2_1:Zz)(v2_2 v2_3:Int)(v2_4:Bool)(a:List GTask)(v5 v6:List Int)(v8:Int)(b:List Bool):US:=stL 96 [(1,Wr v1),(2,.box () [tS v2_0,tS v2_1,tI v2_2,tI v2_3,tB v2_4,Wx 5 (a.map (Wj q0))]),(5,.one (Ww 1 (v5.map etI))),(6,.one (Ww 1 (v6.map etI))),(7,.one (Ww 1 (b.map etB))),(8,Wr v8)]
abbrev iG:US→Exit→US→Prop:=Round E 41 (aq Tryz.f41 1)
def B4 {q0:Kd}(v1:Int)(v2_0 v2_1:Zz)(v2_2 v2_3:Int)(v2_4:Bool)(a:List GTask)(v5 v6:List Int)(v7:List Bool)(v8:Int)(v9:List Int)(v10:Int):B6→Prop| .x2 b=>Loops E 41 (aq Tryz.f41 1) (cF q0 v1 v2_0 v2_1 v2_2 v2_3 v2_4 a v5 v6 v7 v8 v9 v10) (.exit 2) (oa q0 v1 v2_0 v2_1 v2_2 v2_3 v2_4 a v5 v6 v8 b)
theorem G9 {q0:Kd}(v1:Int)(v2_0 v2_1:Zz)(v2_2 v2_3:Int)(v2_4:Bool)(b:List GTask)(v5 v6:List Int)(v7:List Bool)(v8:Int)(v9:List Int)(v10 a:Int)(g1:Bool)(e:(decide (v10<(v9.length:Int)))=true)(d:ar v6 v8=some a)(c:ar v7 a=some g1)(f:g1=true):iG (cF q0 v1 v2_0 v2_1 v2_2 v2_3 v2_4 b v5 v6 v7 v8 v9 v10) .normal (cF q0 v1 v2_0 v2_1 v2_2 v2_3 v2_4 b v5 v6 (v7.set a.toNat true) v8 v9 (inc v10)):=
 RP [Wu (v9.length:Int),.b true,.row (etI a),.row (etI a),.row ([tB true]),.row (etB g1),.rows ((v7.set a.toNat true).map etB)] (ALn v9 etI<|AC e<|AG etI d<|AG etI d<|AC (p:=0≤a∧a<((v7.map etB).length:Int)) (di c)<|AC (p:=(v7.map etB)[0+a.toNat]?=some ([tB true])) ((bC c).trans (WV some (show [tB g1]=[tB true] by rw[f])))<|AG etB c<|AC (p:=(v7.map etB).set (0+a.toNat) (au (etB g1) 0 [tB true])=(v7.set a.toNat true).map etB) (cu (by rfl))<|AN)
theorem Ha {q0:Kd}(v1:Int)(v2_0 v2_1:Zz)(v2_2 v2_3:Int)(v2_4:Bool)(b:List GTask)(v5 v6:List Int)(v7:List Bool)(v8:Int)(v9:List Int)(v10 a:Int)(g1:Bool)(c:Int)(f:(decide (v10<(v9.length:Int)))=true)(e:ar v6 v8=some a)(d:ar v7 a=some g1)(g:g1=false)(h:ar v9 v10=some c)(i:(c==v1)=true):iG (cF q0 v1 v2_0 v2_1 v2_2 v2_3 v2_4 b v5 v6 v7 v8 v9 v10) .normal (cF q0 v1 v2_0 v2_1 v2_2 v2_3 v2_4 b v5 v6 (v7.set a.toNat true) v8 v9 (inc v10)):=
 RP [Wu (v9.length:Int),.b true,.row (etI a),.row (etI a),.row ([tB false]),.row (etI c),.b true,.row (etB g1),.rows ((v7.set a.toNat true).map etB)] (ALn v9 etI<|AC f<|AG etI e<|AG etI e<|AC (p:=0≤a∧a<((v7.map etB).length:Int)) (di d)<|AC (p:=(v7.map etB)[0+a.toNat]?=some ([tB false])) ((bC d).trans (WV some (show [tB g1]=[tB false] by rw[g])))<|AG etI h<|AC i<|AG etB d<|AC (p:=(v7.map etB).set (0+a.toNat) (au (etB g1) 0 [tB true])=(v7.set a.toNat true).map etB) (cu (by rfl))<|AN)
theorem Hb {q0:Kd}(v1:Int)(v2_0 v2_1:Zz)(v2_2 v2_3:Int)(v2_4:Bool)(b:List GTask)(v5 v6:List Int)(v7:List Bool)(v8:Int)(v9:List Int)(v10 a:Int)(g1:Bool)(c:Int)(g3:Bool)(g:(decide (v10<(v9.length:Int)))=true)(e:ar v6 v8=some a)(d:ar v7 a=some g1)(h:g1=false)(f:ar v9 v10=some c)(i:(c==v1)=false)(j:ar v7 c=some g3):iG (cF q0 v1 v2_0 v2_1 v2_2 v2_3 v2_4 b v5 v6 v7 v8 v9 v10) .normal (cF q0 v1 v2_0 v2_1 v2_2 v2_3 v2_4 b v5 v6 (v7.set a.toNat g3) v8 v9 (inc v10)):=
 RP [Wu (v9.length:Int),.b true,.row (etI a),.row (etI a),.row ([tB false]),.row (etI c),.b false,.row (etI c),.row (etB g3),.row (etB g1),.rows ((v7.set a.toNat g3).map etB)] (ALn v9 etI<|AC g<|AG etI e<|AG etI e<|AC (p:=0≤a∧a<((v7.map etB).length:Int)) (di d)<|AC (p:=(v7.map etB)[0+a.toNat]?=some ([tB false])) ((bC d).trans (WV some (show [tB g1]=[tB false] by rw[h])))<|AG etI f<|AC i<|AG etI f<|AG etB j<|AG etB d<|AC (p:=(v7.map etB).set (0+a.toNat) (au (etB g1) 0 [tB g3])=(v7.set a.toNat g3).map etB) (cu (by rfl))<|AN)
theorem Hc {q0:Kd}(v1:Int)(v2_0 v2_1:Zz)(v2_2 v2_3:Int)(v2_4:Bool)(a:List GTask)(v5 v6:List Int)(v7:List Bool)(v8:Int)(v9:List Int)(v10:Int)(b:(decide (v10<(v9.length:Int)))=false):iG (cF q0 v1 v2_0 v2_1 v2_2 v2_3 v2_4 a v5 v6 v7 v8 v9 v10) (.exit 2) (oa q0 v1 v2_0 v2_1 v2_2 v2_3 v2_4 a v5 v6 v8 v7):=
 RP [Wu (v9.length:Int),.b false] (ALn v9 etI<|AC b<|AN)
noncomputable def fu (v1:Int)(v6:List Int)(v8:Int):List Int→Nat→Bool→(List Bool)→Option B6|[],i,v2_4,v7=>some (.x2 v7)|hd::rest,i,v2_4,v7=>(ar v6 v8).bind fun a=>(ar v7 a).bind fun g1=>cond (g1) (fu v1 v6 v8 rest (i+1) v2_4 (v7.set a.toNat true)) (cond (hd==v1) (fu v1 v6 v8 rest (i+1) v2_4 (v7.set a.toNat true)) ((ar v7 hd).bind fun g3=>fu v1 v6 v8 rest (i+1) v2_4 (v7.set a.toNat g3)))
theorem LW {q0:Kd}(v1:Int)(v2_0 v2_1:Zz)(v2_2 v2_3:Int)(a:List GTask)(v5 v6:List Int)(v8:Int)(v9:List Int)(rest:List Int):∀(i:Nat)(v2_4:Bool)(v7:List Bool),(v9).drop i=rest→v9.length≤9223372036854775807→Ans (fu v1 v6 v8 rest i v2_4 v7) (B4 (q0:=q0) v1 v2_0 v2_1 v2_2 v2_3 v2_4 a v5 v6 v7 v8 v9 (i:Int)):=by
 induction rest with
 |nil =>intro i v2_4 v7 d e;have hb:=aP d;unfold fu;exact VZ (V3 (show iG (cF q0 v1 v2_0 v2_1 v2_2 v2_3 v2_4 a v5 v6 v7 v8 v9 (i:Int)) (.exit 2) (oa q0 v1 v2_0 v2_1 v2_2 v2_3 v2_4 a v5 v6 v8 v7)from Hc (q0:=q0) v1 v2_0 v2_1 v2_2 v2_3 v2_4 a v5 v6 v7 v8 v9 (i:Int) hb))
 |cons hd rest g =>
  intro i v2_4 v7 d e;have hb:=aI d;have h:=aJ d e;have c:=az d;have m:=aK d;unfold fu;apply V5;intro b j;apply V5;intro g1 k;apply V4<;>intro l
  ·exact(g (i+1) v2_4 (v7.set b.toNat true) c e).mono fun y f=>by have r:iG (cF q0 v1 v2_0 v2_1 v2_2 v2_3 v2_4 a v5 v6 v7 v8 v9 (i:Int)) .normal (cF q0 v1 v2_0 v2_1 v2_2 v2_3 v2_4 a v5 v6 (v7.set b.toNat true) v8 v9 (inc (i:Int))):=G9 (q0:=q0) v1 v2_0 v2_1 v2_2 v2_3 v2_4 a v5 v6 v7 v8 v9 (i:Int) b g1 hb j k l;rw[h]at r;cases y<;>exact V2 r f
  ·apply V4<;>intro n
   ·exact(g (i+1) v2_4 (v7.set b.toNat true) c e).mono fun y f=>by have r:iG (cF q0 v1 v2_0 v2_1 v2_2 v2_3 v2_4 a v5 v6 v7 v8 v9 (i:Int)) .normal (cF q0 v1 v2_0 v2_1 v2_2 v2_3 v2_4 a v5 v6 (v7.set b.toNat true) v8 v9 (inc (i:Int))):=Ha (q0:=q0) v1 v2_0 v2_1 v2_2 v2_3 v2_4 a v5 v6 v7 v8 v9 (i:Int) b g1 hd hb j k l m n;rw[h]at r;cases y<;>exact V2 r f
   ·apply V5;intro g3 o;exact(g (i+1) v2_4 (v7.set b.toNat g3) c e).mono fun y f=>by have r:iG (cF q0 v1 v2_0 v2_1 v2_2 v2_3 v2_4 a v5 v6 v7 v8 v9 (i:Int)) .normal (cF q0 v1 v2_0 v2_1 v2_2 v2_3 v2_4 a v5 v6 (v7.set b.toNat g3) v8 v9 (inc (i:Int))):=Hb (q0:=q0) v1 v2_0 v2_1 v2_2 v2_3 v2_4 a v5 v6 v7 v8 v9 (i:Int) b g1 hd g3 hb j k l m n o;rw[h]at r;cases y<;>exact V2 r f
inductive B5 where|x0 (v7:List Bool)
def jW (q0:Kd)(v1:Int)(v2_0 v2_1:Zz)(v2_2 v2_3:Int)(v2_4:Bool)(a:List GTask)(v5 v6:List Int)(v7:List Bool)(v8:Int):US:=stL 96 [(1,Wr v1),(2,.box () [tS v2_0,tS v2_1,tI v2_2,tI v2_3,tB v2_4,Wx 5 (a.map (Wj q0))]),(5,.one (Ww 1 (v5.map etI))),(6,.one (Ww 1 (v6.map etI))),(7,.one (Ww 1 (v7.map etB))),(8,Wr v8)]
def nZ (q0:Kd)(v5:List Int)(a:List Bool):US:=stL 96 [(5,.one (Ww 1 (v5.map etI))),(7,.one (Ww 1 (a.map etB)))]
abbrev re:US→Exit→US→Prop:=Round E 41 (aq Tryz.f41 0)
def LY {q0:Kd}(v1:Int)(v2_0 v2_1:Zz)(v2_2 v2_3:Int)(v2_4:Bool)(a:List GTask)(v5 v6:List Int)(v7:List Bool)(v8:Int):B5→Prop| .x0 b=>Loops E 41 (aq Tryz.f41 0) (jW q0 v1 v2_0 v2_1 v2_2 v2_3 v2_4 a v5 v6 v7 v8) (.exit 0) (nZ q0 v5 b)
theorem G7 {q0:Kd}(v1:Int)(v2_0 v2_1:Zz)(v2_2 v2_3:Int)(v2_4:Bool)(a:List GTask)(v5 v6:List Int)(v7:List Bool)(v8 c:Int)(b:List Bool)(d:(decide (v8<(v6.length:Int)))=true)(e:ar v6 v8=some c)(f:ab.sm (GDag.mk v2_0 v2_1 v2_2 v2_3 v2_4 a))(g:aY (GDag.mk v2_0 v2_1 v2_2 v2_3 v2_4 a)=true)(h:0≤c∧c<((GDag.mk v2_0 v2_1 v2_2 v2_3 v2_4 a).f5.length:Int))(i:B4 (q0:=q0) v1 v2_0 v2_1 v2_2 v2_3 v2_4 a v5 v6 v7 v8 (ups (GDag.mk v2_0 v2_1 v2_2 v2_3 v2_4 a) c) 0 (.x2 b)):re (jW q0 v1 v2_0 v2_1 v2_2 v2_3 v2_4 a v5 v6 v7 v8) .normal (jW q0 v1 v2_0 v2_1 v2_2 v2_3 v2_4 a v5 v6 b (inc v8)):=
 RP [Wu (v6.length:Int),.b true,.row (etI c),.ret [(false,[Ww 1 ((ups (GDag.mk v2_0 v2_1 v2_2 v2_3 v2_4 a) c).map etI)])],.lp (.exit 2) (oa q0 v1 v2_0 v2_1 v2_2 v2_3 v2_4 a v5 v6 v8 b)] (ALn v6 etI<|AC d<|AG etI e<|AV (ψ:=fun k=>E.C k 66 [.agg (Wc .far q0 (GDag.mk v2_0 v2_1 v2_2 v2_3 v2_4 a)),Wr c]=some [(false,[Ww 1 ((ups (GDag.mk v2_0 v2_1 v2_2 v2_3 v2_4 a) c).map etI)])]) (EE (GDag.mk v2_0 v2_1 v2_2 v2_3 v2_4 a) c f g h)<|AL i<|AN)
theorem G8 {q0:Kd}(v1:Int)(v2_0 v2_1:Zz)(v2_2 v2_3:Int)(v2_4:Bool)(a:List GTask)(v5 v6:List Int)(v7:List Bool)(v8:Int)(b:(decide (v8<(v6.length:Int)))=false):re (jW q0 v1 v2_0 v2_1 v2_2 v2_3 v2_4 a v5 v6 v7 v8) (.exit 0) (nZ q0 v5 v7):=
 RP [Wu (v6.length:Int),.b false] (ALn v6 etI<|AC b<|AN)
noncomputable def iH (v1:Int)(v2_0 v2_1:Zz)(v2_2 v2_3:Int)(a:List GTask)(v6:List Int):List Int→Nat→Bool→(List Bool)→Option B5
 |[],i,v2_4,v7=>some (.x0 v7)
 |hd::rest,i,v2_4,v7=>if ab.sm (GDag.mk v2_0 v2_1 v2_2 v2_3 v2_4 a)then if aY (GDag.mk v2_0 v2_1 v2_2 v2_3 v2_4 a)=true then if 0≤hd∧hd<((GDag.mk v2_0 v2_1 v2_2 v2_3 v2_4 a).f5.length:Int)then if(ups (GDag.mk v2_0 v2_1 v2_2 v2_3 v2_4 a) hd).length≤9223372036854775807 then(fu v1 v6 (i:Int) (ups (GDag.mk v2_0 v2_1 v2_2 v2_3 v2_4 a) hd) 0 v2_4 v7).bind fun y=>match y with
  | .x2 b=>(iH v1 v2_0 v2_1 v2_2 v2_3 a v6 rest (i+1) v2_4 b)else none else none else none else none
theorem LV {q0:Kd}(v1:Int)(v2_0 v2_1:Zz)(v2_2 v2_3:Int)(a:List GTask)(v5 v6:List Int)(rest:List Int):∀(i:Nat)(v2_4:Bool)(v7:List Bool),(v6).drop i=rest→v6.length≤9223372036854775807→Ans (iH v1 v2_0 v2_1 v2_2 v2_3 a v6 rest i v2_4 v7) (LY (q0:=q0) v1 v2_0 v2_1 v2_2 v2_3 v2_4 a v5 v6 v7 (i:Int)):=by
 induction rest with
 |nil =>intro i v2_4 v7 c e;have hb:=aP c;unfold iH;exact VZ (V3 (show re (jW q0 v1 v2_0 v2_1 v2_2 v2_3 v2_4 a v5 v6 v7 (i:Int)) (.exit 0) (nZ q0 v5 v7)from G8 (q0:=q0) v1 v2_0 v2_1 v2_2 v2_3 v2_4 a v5 v6 v7 (i:Int) hb))
 |cons hd rest h =>
  intro i v2_4 v7 c e;have hb:=aI c;have j:=aJ c e;have f:=az c;have k:=aK c;unfold iH;apply V6;intro l;apply V6;intro m;apply V6;intro n;apply V6;intro g;apply V5;intro y d;replace d:=LW (q0:=q0) v1 v2_0 v2_1 v2_2 v2_3 a v5 v6 (i:Int) (ups (GDag.mk v2_0 v2_1 v2_2 v2_3 v2_4 a) hd) (ups (GDag.mk v2_0 v2_1 v2_2 v2_3 v2_4 a) hd) 0 v2_4 v7 rfl g y d;cases y with
  |x2 b =>have o:=d;exact(h (i+1) v2_4 b f e).mono fun y d=>by have r:re (jW q0 v1 v2_0 v2_1 v2_2 v2_3 v2_4 a v5 v6 v7 (i:Int)) .normal (jW q0 v1 v2_0 v2_1 v2_2 v2_3 v2_4 a v5 v6 b (inc (i:Int))):=G7 (q0:=q0) v1 v2_0 v2_1 v2_2 v2_3 v2_4 a v5 v6 v7 (i:Int) hd b hb k l m n o;rw[j]at r;cases y<;>exact V2 r d
noncomputable def kS (a:GDag)(d:Int):Option ((List Int)):=
  if ab.sm a then cond (aY a)
   (cond (ak d 0 (IntKind.wrap .i64 ((a.f5.length:Int)-(1:Int))))
    (if ab.sm a.f5 then if df a.f5 then if 0≤(a.f5.length:Int)∧(a.f5.length:Int)≤(a.f5.length:Int)∧((1:Nat):Int)*(a.f5.length:Int)≤281474976710656∧(a.f5.length:Int)≤4611686018427387904 then if(cn a.f5).length≤9223372036854775807 then(iH d a.f0 a.f1 a.f2 a.f3 a.f5 (cn a.f5) (cn a.f5) 0 a.f4 (List.replicate (a.f5.length:Int).toNat false)).bind fun y=>match y with
     | .x0 b=>(if b.length≤9223372036854775807 then(iI b 0 ([])).bind fun y=>match y with
      | .x4 c=>(some (c))else none)else none else none else none else none)
    (some (([]:List Int))))
   (some (([]:List Int)))else none
theorem NV {q0:Kd}(x0:GDag)(c:Int):Ans (kS x0 c) (fun r=>Does E 41 [.agg (Wc .far q0 x0),Wr c] [(false,[Ww 1 (r.map etI)])]):=by
 unfold kS;apply V6;intro e;apply V4<;>intro f
 ·apply V4<;>intro i
  ·apply V6;intro j;apply V6;intro l;apply V6;intro m;apply V6;intro g;apply V5;intro y b;replace b:=LV (q0:=q0) c x0.f0 x0.f1 x0.f2 x0.f3 x0.f5 ([]) (cn x0.f5) (cn x0.f5) 0 x0.f4 (List.replicate (x0.f5.length:Int).toNat false) rfl g y b;cases y with
   |x0 a =>
    have n:=b;apply V6;intro h;apply V5;intro y b;replace b:=LX (q0:=q0) a a 0 ([]) rfl h y b;cases y with
    |x4 d =>have o:=b;exact VZ (DP Tryz.f41 [rT,Wu (x0.f5.length:Int),rT,.ret [(false,[Ww 1 ((cn x0.f5).map etI)])],Wu (x0.f5.length:Int),.rows ((List.replicate (x0.f5.length:Int).toNat false).map etB),.lp (.exit 0) (nZ q0 ([]) a),.lp (.exit 4) (ob q0 d)] (AV (ψ:=fun k=>E.C k 64 [.agg (Wc .far q0 x0)]=some [Wp true]) (V7 (lD x0 e) (by rw[f]))<|ALn x0.f5 (Wj q0)<|AD (V9 (am c 0 (IntKind.wrap .i64 ((x0.f5.length:Int)-(1:Int)))) i)<|AV (ψ:=fun k=>E.C k 67 [.one (Wx 5 (x0.f5.map (Wj q0)))]=some [(false,[Ww 1 ((cn x0.f5).map etI)])]) (uF x0.f5 j l)<|ALn x0.f5 (Wj q0)<|AC m<|AC (p:=List.replicate (x0.f5.length:Int).toNat [tB false]=(List.replicate (x0.f5.length:Int).toNat false).map etB) (nj rfl)<|AL n<|AL o<|AN))
  ·exact VZ (DP Tryz.f41 [rT,Wu (x0.f5.length:Int),rF] (AV (ψ:=fun k=>E.C k 64 [.agg (Wc .far q0 x0)]=some [Wp true]) (V7 (lD x0 e) (by rw[f]))<|ALn x0.f5 (Wj q0)<|AD (V9 (am c 0 (IntKind.wrap .i64 ((x0.f5.length:Int)-(1:Int)))) i)<|AN))
 ·exact VZ (DP Tryz.f41 [rF] (AV (ψ:=fun k=>E.C k 64 [.agg (Wc .far q0 x0)]=some [Wp false]) (V7 (lD x0 e) (by rw[f]))<|AN))
theorem OS {v:List Bool}{k:Nat}{b:Bool}(c:k<v.length)(x:Int)(a:0≤x):ar (v.set k b) x=if x=(k:Int)then some b else ar v x:=by
 unfold ar;rw[Wz a,Zq];by_cases e:x=(k:Int)
 ·rw[Wz (by omega),Wz (by omega),Wz e]
 ·rw[WM (by omega),WM e,Wz a]
def below (i:Int)(a:List Int)(l:List Int):Bool:=l.any fun u=>u==i ||cC a u
theorem Oy (i:Int)(o:List Int)(p:Int)(k n:Nat)(s:ar o p=some (k:Int))(a:List Int)(v:List Bool)(h:Marks 0 ((n:Int)-1) v a)(A:k<n)(d:(k:Int)∉a):∀(l:List Int)(j:Nat)(z b:Bool),(∀x∈l,0≤x∧x<(n:Int)) →
  fu i o p l j z (v.set k b)=some (.x2 (v.set k (b ||below i a l)))
 |[],j,z,b,_=>by unfold fu below;simp
 |x::l,j,z,b,t=>by
  have B:=t x (by simp);have hv:=h.1;have u:=OS (v:=v) (b:=b) (by omega:k<v.length) (k:Int) (by omega);rw[Wz rfl]at u;have g:=fun f=>Oy i o p k n s a v h A d l (j+1) z f fun y C=>t y (by simp[C])
  have ss:∀f,(v.set k b).set (k:Int).toNat f=v.set k f:=fun f=>by rw[show(k:Int).toNat=k by omega,Zs]
  unfold fu;rw[s,Wy,u,Wy,ss];cases b with
  |true=>rw[WK,g];simp[below]
  |false =>
   rw[WO];cases q:x==i with
   |true=>rw[WK,g];simp[below,q]
   |false =>
    rw[WO,OS (by omega) x B.1];have hb:below i a (x::l)=(cC a x ||below i a l):=by unfold below;rw[YW,q,YD]
    by_cases e:x=(k:Int)
    ·have:cC a x=false:=by rw[←Ys,rC,e];exact d
     rw[Wz e,Wy,ss,g,hb,this];rfl
    ·obtain⟨c,hc,_⟩:=eK (l:=v) (k:=x) (by omega);have m:=(lI hc).2;have r:=h.2.2 x.toNat (by omega);rw[show((x.toNat:Nat):Int)=x by omega,m]at r;have:cC a x=c:=by
      cases c with
      |true=>exact rC.2 (r.1 rfl)
      |false=>rw[←Ys,rC];exact fun w=>by have:=r.2 w;cases this
     rw[WM e,hc,Wy,ss,g,hb,this,YD]
theorem Ox (i k:Int)(a:List Int)(b:a.length≤1000):∀(l:List Int)(j:Nat)(z:Bool),lU i a k l j z=some (.x2 (cond (below i a l) (a++[k]) a))
 |[],j,z=>rfl
 |x::l,j,z=>by
  have c:=Ox i k a b l (j+1) z;have hb:below i a (x::l)=((x==i ||cC a x)||below i a l):=by unfold below;rw[YW]
  unfold lU;rw[hb];cases x==i with
  |true=>rw[WK,Wz (by simp;omega)];rfl
  |false =>
   rw[WO,Wz (by omega)];cases cC a x with
   |true=>rw[WK,Wz (by simp;omega)];rfl
   |false=>rw[WO,c];rfl
theorem A2 (d:GDag)(h:ab.sm d)(hd:aY d=true)(i:Int)(o:List Int)(G:o.Nodup)(H:∀x∈o,0≤x∧x<(d.f5.length:Int))(A:o.length≤4):∀(l:List Int)(j:Nat)(v:List Bool)(f:List Int),o.drop j=l→Marks 0 ((d.f5.length:Int)-1) v f→f.Nodup→f.length+l.length≤100→(∀x∈f,x∈o.take j) →
  ∃t g,iH i d.f0 d.f1 d.f2 d.f3 d.f5 o l j d.f4 v=some (.x0 t)∧kB i d.f0 d.f1 d.f2 d.f3 d.f5 l j d.f4 f=some (.x0 g)∧Marks 0 ((d.f5.length:Int)-1) t g∧g.Nodup∧g.length≤100
 |[],j,v,f,_,u,F,p,_=>⟨v,f,rfl,rfl,u,F,by simpa using p⟩
 |k::l,j,v,f,s,u,F,p,r=>by
  have e:GDag.mk d.f0 d.f1 d.f2 d.f3 d.f4 d.f5=d:=rfl;have hj:o[j]?=some k:=by rw[←YE,s];rfl
  have B:=oP s;have I:=H k (WC hj);obtain⟨O,U⟩:=SA hd I;obtain⟨n,rfl⟩:∃m:Nat,k=(m:Int):=⟨k.toNat,by omega⟩
  have y:(n:Int)∉f:=fun w=>by have P:=r _ w;obtain⟨a,J,C⟩:=List.getElem_of_mem P;rw[List.getElem_take]at C;simp only[List.length_take]at J;rw[WE B]at hj;exact X5.1 G a j (by omega) B (by omega) (by rw[C,Yn hj])
  have Q:ar o (j:Int)=some (n:Int):=by rw[dA];exact hj
  have hv:=u.1;have K:v[n]?=some false:=by
   obtain⟨c,hc,_⟩:=eK (l:=v) (k:=(n:Int)) (by omega);have z:=(lI hc).2;rw[show((n:Int)).toNat=n by omega]at z;cases c with
   |true=>exact absurd ((u.2.2 n (by omega)).1 z) y
   |false=>exact z
  have M:v.set n false=v:=by
   refine XT fun a=>?_
   rw[Zq];split
   ·rename_i R;subst R;rw[Wz (by omega),K]
   ·rfl
  have N:=Oy i o (j:Int) n d.f5.length Q f v u (by omega) y (ups d n) 0 d.f4 false O;rw[M,YD]at N;have S:=Ox i n f (by simp only[W4]at p;omega) (ups d n) 0 d.f4;simp only[W4]at p;have D:∀x,x∈o.take j→x∈o.take (j+1):=fun x hx=>by rw[YT,hj];simp[hx]
  have L:∃t g,iH i d.f0 d.f1 d.f2 d.f3 d.f5 o l (j+1) d.f4 (v.set n (below i f (ups d n)))=some (.x0 t)∧kB i d.f0 d.f1 d.f2 d.f3 d.f5 l (j+1) d.f4 (cond (below i f (ups d n)) (f++[(n:Int)]) f)=some (.x0 g)∧Marks 0 ((d.f5.length:Int)-1) t g∧g.Nodup∧g.length≤100:=by
   cases below i f (ups d n)with
   |true =>
    refine A2 d h hd i o G H A l (j+1) _ _ (az s) ?_ ?_ (by simp;omega) fun x hx=>?_
    ·have:=u.add (XA 0) (x:=(n:Int)) (by omega);exact this
    ·rw[WK,List.nodup_append];exact⟨F,by simp,fun a J b hb q=>by rw[WG]at hb;subst hb;subst q;exact y J⟩
    ·rw[WK]at hx;rcases W5.1 hx with hx|hx
     ·exact D x (r x hx)
     ·rw[WG]at hx;subst hx;rw[YT,hj];simp
   |false =>rw[M,WO];exact A2 d h hd i o G H A l (j+1) v f (az s) u F (by omega) fun x hx=>D x (r x hx)
  obtain⟨t,g,f1,f2,f3⟩:=L;refine⟨t,g,?_,?_,f3⟩
  ·unfold iH;rw[e,Wz h,Wz hd,Wz I,Wz (by omega),N,Wy];exact f1
  ·unfold kB;rw[e,Wz h,Wz hd,Wz I,Wz (by omega),S,Wy];exact f2
theorem DL:∀(l:List Bool)(k:Nat)(v:List Int),v.length+l.length≤1000→v.Pairwise (· < ·)→(∀y∈v,y<(k:Int))→∃w,iI l k v=some (.x4 w)∧w.Pairwise (· < ·)∧∀y,y∈w↔y∈v∨∃j:Nat,l[j]?=some true∧y=((k+j:Nat):Int)
 |[],k,v,_,e,_=>⟨v,rfl,e,fun y=>by simp⟩
 |b::l,k,v,o,e,f=>by
  simp only[W4]at o;unfold iI;cases b with
  |true =>
   obtain⟨w,g,i,m⟩:=DL l (k+1) (v++[(k:Int)]) (by simp;omega)
    (by rw[YL];exact⟨e,by simp,fun a p c hc=>by rw[WG]at hc;subst hc;exact f a p⟩)
    (fun y hy=>by rcases W5.1 hy with hy|hy;have:=f y hy;omega;rw[WG]at hy;omega)
   refine⟨w,by rw[WK,Wz (by simp;omega)];exact g,i,fun y=>?_⟩;rw[m,W5,WG];constructor
   ·rintro((h|h)|⟨j,d,n⟩)
    ·exact .inl h
    ·exact .inr ⟨0,rfl,by omega⟩
    ·exact .inr ⟨j+1,d,by omega⟩
   ·rintro(h|⟨j,d,n⟩)
    ·exact .inl (.inl h)
    ·cases j with
     |zero=>exact .inl (.inr (by omega))
     |succ j=>exact .inr ⟨j,d,by omega⟩
  |false =>
   obtain⟨w,g,i,m⟩:=DL l (k+1) v (by omega) e (fun y hy=>by have:=f y hy;omega);refine⟨w,g,i,fun y=>?_⟩;rw[m];constructor
   ·rintro(h|⟨j,d,n⟩)
    ·exact .inl h
    ·exact .inr ⟨j+1,d,by omega⟩
   ·rintro(h|⟨j,d,n⟩)
    ·exact .inl h
    ·cases j with
     |zero=>cases d
     |succ j=>exact .inr ⟨j,d,by omega⟩
noncomputable def bP (d:GDag)(i:Int):List Int:=(qb d i).getD []
noncomputable def ck (d:GDag)(i:Int):List Int:=cond (aY d&&nb d i) (bP d i) []
theorem DM (d:GDag)(i:Int)(h:ab.sm d)(hd:aY d=true)(hi:0≤i∧i<(d.f5.length:Int)):qb d i=some (bP d i)∧((bP d i).length≤100∧∀y∈bP d i,0≤y∧y<(d.f5.length:Int))∧kS d i=some (bP d i):=by
 obtain⟨J,K, -,f,L⟩:=rx hd;have hs:ab.sm d.f5:=h.2.2;obtain⟨q,r⟩:=BU f;have s:Marks 0 ((d.f5.length:Int)-1) (List.replicate d.f5.length false) []:=by refine⟨by rw[List.length_replicate];omega,fun x k=>(by cases k),fun j t=>?_⟩;rw[YC,Wz (by omega)];simp
 obtain⟨v,b,u,z,c,A,B⟩:=A2 d h hd i (cn d.f5) q r (by omega) (cn d.f5) 0 _ [] rfl s (by simp) (by simp;omega) (fun x k=>by cases k);obtain⟨w,C,D,F⟩:=DL v 0 [] (by have:=c.1;simp;omega) (by simp) (fun y a=>by cases a);obtain⟨G,n⟩:=tL A;have H:w=dj b:=wu D G fun y=>by
  rw[F,n];constructor
  ·rintro(a|⟨j,l,I⟩)
   ·cases a
   ·have t:j<v.length:=by
     rcases WI j v.length with g|g
     ·exact g
     ·rw[WF g]at l;cases l
    have:=(c.2.2 j (by have:=c.1;omega)).1 l;rw[I,Yk];exact this
  ·intro a;have hb:=c.2.1 y a;refine .inr ⟨y.toNat,(c.2.2 y.toNat (by omega)).2 ?_,by omega⟩;rw[show((y.toNat:Nat):Int)=y by omega];exact a
 have e:cR d=cn d.f5:=rfl;have o:qb d i=some (dj b):=by unfold qb;rw[Wz h,Wz f,e,Wz (by omega),z,Wy];simp only;rw[Wz (by omega)]
 have p:bP d i=dj b:=by unfold bP;rw[o];rfl
 refine⟨by rw[p];exact o,⟨by rw[p];show(List.mergeSort _ _).length≤_;rw[Y4];exact B,fun y a=>by rw[p]at a;have hb:=c.2.1 y ((n y).1 a);omega⟩,?_⟩;unfold kS;have m:ak i 0 (IntKind.wrap .i64 ((d.f5.length:Int)-1))=true:=by rw[dR _ (by omega) (by omega)];unfold ak;rw[WJ (by omega),WJ (by omega)];rfl
 rw[Wz h,hd,WK,m,WK,Wz hs,Wz f,Wz (by omega),Wz (by omega),show((d.f5.length:Int)).toNat=d.f5.length by omega,u,Wy];simp only;rw[Wz (by have:=c.1;omega),C,Wy,H,p]
theorem Ra (d:GDag)(i:Int)(h:ab.sm d):kS d i=some (ck d i):=by
 unfold ck;cases q:aY d with
 |false =>unfold kS;rw[Wz h,q];rfl
 |true =>
  cases a:nb d i with
  |false =>have e:ak i 0 (IntKind.wrap .i64 ((d.f5.length:Int)-1))=nb d i:=rfl;unfold kS;rw[Wz h,q,e,a];rfl
  |true=>exact(DM d i h q (H8 a h)).2.2
theorem HP {q0:Kd}(a:GDag)(b:Int)(h:ab.sm a)(hd:aY a=true)(hi:0≤b∧b<(a.f5.length:Int)):Does E 81 [.agg (Wc .far q0 a),Wr b] [(false,[Ww 1 ((bP a b).map etI)])]:=by exact RB a b _ (DM a b h hd hi).1
theorem sk {q0:Kd}(a:GDag)(b:Int)(h:ab.sm a):Does E 41 [.agg (Wc .far q0 a),Wr b] [(false,[Ww 1 ((ck a b).map etI)])]:=by exact NV a b _ (Ra a b h)
inductive yz where|ret (v6_0:Zz) (v6_1 v6_2 v6_3:Int) (v6_4:List GState) (v7:Bool)|x0 (v11_4:List GState)
def jJ (q0:Kd)(e v3_1:Zz)(v3_2 f:Int)(g:Bool)(v3_5:List GTask)(h:Zz)(i j k:Int)(l:List GState)(v6_0:Zz)(v6_1 v6_2 v6_3:Int)(v6_4:List GState)(v9:Bool)(v10:List Int)(a:Zz)(b c d:Int)(v11_4:List GState)(m:Int):US:=stL 81 [(3,.box () [tS e,tS v3_1,tI v3_2,tI f,tB g,Wx 5 (v3_5.map (Wj q0))]),(4,.box () [tS h,tI i,tI j,tI k,Wx 4 (l.map Wi)]),(6,.box () [tS v6_0,tI v6_1,tI v6_2,tI v6_3,Ww 4 (v6_4.map Wi)]),(9,Ws v9),(10,.one (Ww 1 (v10.map etI))),(11,.box () [tS a,tI b,tI c,tI d,Ww 4 (v11_4.map Wi)]),(12,Wr m)]
def k6 (q0:Kd)(a:Zz)(b c d:Int)(e:List GState)(f:Bool):US:=stL 81 [(6,.box () [tS a,tI b,tI c,tI d,Ww 4 (e.map Wi)]),(7,Ws f)]
def l4 (q0:Kd)(f v3_1:Zz)(v3_2 g:Int)(h:Bool)(v3_5:List GTask)(i:Zz)(j k l:Int)(m:List GState)(v6_0:Zz)(v6_1 v6_2 v6_3:Int)(v6_4:List GState)(v9:Bool)(b:Zz)(c d e:Int)(a:List GState):US:=stL 81 [(3,.box () [tS f,tS v3_1,tI v3_2,tI g,tB h,Wx 5 (v3_5.map (Wj q0))]),(4,.box () [tS i,tI j,tI k,tI l,Wx 4 (m.map Wi)]),(6,.box () [tS v6_0,tI v6_1,tI v6_2,tI v6_3,Ww 4 (v6_4.map Wi)]),(9,Ws v9),(11,.box () [tS b,tI c,tI d,tI e,Ww 4 (a.map Wi)])]
abbrev rY:US→Exit→US→Prop:=Round E 17 (aq Tryz.f17 0)
def G6 {q0:Kd}(e v3_1:Zz)(v3_2 f:Int)(g:Bool)(v3_5:List GTask)(h:Zz)(i j k:Int)(l:List GState)(v6_0:Zz)(v6_1 v6_2 v6_3:Int)(v6_4:List GState)(v9:Bool)(v10:List Int)(a:Zz)(b c d:Int)(v11_4:List GState)(s:Int):yz→Prop| .ret n o p q r t=>Loops E 17 (aq Tryz.f17 0) (jJ q0 e v3_1 v3_2 f g v3_5 h i j k l v6_0 v6_1 v6_2 v6_3 v6_4 v9 v10 a b c d v11_4 s) .ret (k6 q0 n o p q r t)| .x0 m=>Loops E 17 (aq Tryz.f17 0) (jJ q0 e v3_1 v3_2 f g v3_5 h i j k l v6_0 v6_1 v6_2 v6_3 v6_4 v9 v10 a b c d v11_4 s) (.exit 0) (l4 q0 e v3_1 v3_2 f g v3_5 h i j k l v6_0 v6_1 v6_2 v6_3 v6_4 v9 a b c d m)
noncomputable def fZ (a:List GState):List Int→Nat→Bool→Bool→(List GState)→Option yz|[],i,b,v9,v11_4=>some (.x0 v11_4)|hd::rest,i,b,v9,v11_4=>(ar a hd).bind fun g1=>cond (g1.f0==(1:Int)) (some (.ret ByteArray.empty 0 0 0 ([]) false)) ((ar v11_4 hd).bind fun c=>fZ a rest (i+1) b v9 (v11_4.set hd.toNat (GState.mk 0 0 0 0)))
abbrev ZI:=GState.mk 0 0 0 0
theorem yy {q0:Kd}(g v3_1:Zz)(v3_2 h:Int)(v3_5:List GTask)(j:Zz)(k l m:Int)(f:List GState)(v6_0:Zz)(v6_1 v6_2 v6_3:Int)(v6_4:List GState)(v10:List Int)(b:Zz)(c d e:Int)(rest:List Int):∀(i:Nat)(a v9:Bool)(v11_4:List GState),(v10).drop i=rest→v10.length≤9223372036854775807→Ans (fZ f rest i a v9 v11_4) (G6 (q0:=q0) g v3_1 v3_2 h a v3_5 j k l m f v6_0 v6_1 v6_2 v6_3 v6_4 v9 v10 b c d e v11_4 (i:Int)):=by
 induction rest with
 |nil =>intro i a v9 v11_4 n o;have hb:=aP n;unfold fZ;exact VZ (V3 (show rY (jJ q0 g v3_1 v3_2 h a v3_5 j k l m f v6_0 v6_1 v6_2 v6_3 v6_4 v9 v10 b c d e v11_4 (i:Int)) (.exit 0) (l4 q0 g v3_1 v3_2 h a v3_5 j k l m f v6_0 v6_1 v6_2 v6_3 v6_4 v9 b c d e v11_4)from RP [Wu (v10.length:Int),.b false] (ALn v10 etI<|AC hb<|AN)))
 |cons hd rest w =>
  intro i a v9 v11_4 n o;have hb:=aI n;have x:=aJ n o;have q:=az n;have s:=aK n;unfold fZ;apply V5;intro g1 t;apply V4<;>intro u
  ·exact VZ (V3 (show rY (jJ q0 g v3_1 v3_2 h a v3_5 j k l m f v6_0 v6_1 v6_2 v6_3 v6_4 v9 v10 b c d e v11_4 (i:Int)) .ret (k6 q0 ByteArray.empty 0 0 0 ([]) false)from RP [Wu (v10.length:Int),.b true,.row (etI hd),.row (Wi g1),.b true] (ALn v10 etI<|AC hb<|AG etI s<|AR Wi t<|AC u<|AN)))
  ·apply V5;intro v z;exact(w (i+1) a v9 (v11_4.set hd.toNat ZI) q o).mono fun y A=>by have r:rY (jJ q0 g v3_1 v3_2 h a v3_5 j k l m f v6_0 v6_1 v6_2 v6_3 v6_4 v9 v10 b c d e v11_4 (i:Int)) .normal (jJ q0 g v3_1 v3_2 h a v3_5 j k l m f v6_0 v6_1 v6_2 v6_3 v6_4 v9 v10 b c d e (v11_4.set hd.toNat ZI) (inc (i:Int))):=RP [Wu (v10.length:Int),.b true,.row (etI hd),.row (Wi g1),.b false,.row (etI hd),.row (Wi v),.rows ((v11_4.set hd.toNat ZI).map Wi)] (ALn v10 etI<|AC hb<|AG etI s<|AR Wi t<|AC u<|AG etI s<|AG Wi z<|AC (p:=(v11_4.map Wi).set (0+hd.toNat) (au (Wi v) 0 [tI 0,tI 0,tI 0,tI 0])=(v11_4.set hd.toNat ZI).map Wi) (cu (by rfl))<|AN);rw[x]at r;cases y<;>exact V2 r A
noncomputable def po (c:GDag)(d:GRun)(b:Int):Option (GRun×Bool):=
  if ab.sm c then cond (pm c d)
   (cond (ak b 0 (IntKind.wrap .i64 ((d.f3.length:Int)-(1:Int))))
    (cond (d.f2==(1000:Int))
     (some ((GRun.mk ByteArray.empty (GSpan.mk 0 0) 0 ([]:List GState)),false))
     (if aY c=true then if d.f3.length=c.f5.length then if 0≤b∧b<(c.f5.length:Int)then cond ((ax c d b).2)
      (if(([b]).length+(ck c b).length)*8≤140737488355328∧([b]).length+(ck c b).length≤4611686018427387904 then if ab.sm d then if(([b])++(ck c b)).length≤9223372036854775807 then(fZ d.f3 (([b])++(ck c b)) 0 c.f4 ((ax c d b).2) ((id d).f3)).bind fun y=>match y with
       | .ret e f g h i j=>(some ((GRun.mk e (GSpan.mk f g) h i),j))
       | .x0 a=>(some ((GRun.mk ByteArray.empty (GSpan.mk 0 0) 0 ([]:List GState)),false))else none else none else none)
      (if(([b]).length+(ck c b).length)*8≤140737488355328∧([b]).length+(ck c b).length≤4611686018427387904 then if ab.sm d then if(([b])++(ck c b)).length≤9223372036854775807 then(fZ d.f3 (([b])++(ck c b)) 0 c.f4 ((ax c d b).2) ((id d).f3)).bind fun y=>match y with
       | .ret e f g h i j=>(some ((GRun.mk e (GSpan.mk f g) h i),j))
       | .x0 a=>(if ab.sm (GRun.mk ((id d).f0) ((id d).f1) (inc d.f2) a)then some ((kr c (GRun.mk ((id d).f0) ((id d).f1) (inc d.f2) a)),true)else none)else none else none else none)else none else none else none))
    (some ((GRun.mk ByteArray.empty (GSpan.mk 0 0) 0 ([]:List GState)),false)))
   (some ((GRun.mk ByteArray.empty (GSpan.mk 0 0) 0 ([]:List GState)),false))else none
theorem Jq {q0:Kd}(x0:GDag)(a:GRun)(b:Int):Ans (po x0 a b) (fun r=>Does E 17 [.agg (Wc .far q0 x0),.agg (We .far a),Wr b] [(true,We .own r.1),Wp r.2]):=by
 unfold po;apply V6;intro i;apply V4<;>intro m
 ·apply V4<;>intro o
  ·apply V4<;>intro p
   ·exact VZ (DP Tryz.f17 [rT,Wu (a.f3.length:Int),rT,.b true] (AV (ψ:=fun k=>E.C k 38 [.agg (Wc .far q0 x0),.agg (We .far a)]=some [Wp true]) (V7 (mT x0 a i) (by rw[m]))<|ALn a.f3 Wi<|AD (V9 (am b 0 (IntKind.wrap .i64 ((a.f3.length:Int)-(1:Int)))) o)<|AC p<|AN))
   ·apply V6;intro q;apply V6;intro s;apply V6;intro t;apply V4<;>intro f1
    ·apply V6;intro f2;apply V6;intro f3;apply V6;intro n;apply V5;intro y l;replace l:=yy (q0:=q0) x0.f0 x0.f1 x0.f2 x0.f3 x0.f5 a.f0 a.f1.f0 a.f1.f1 a.f2 a.f3 ByteArray.empty 0 0 0 ([]) (([b])++(ck x0 b)) ((id a).f0) (((id a).f1).f0) (((id a).f1).f1) ((id a).f2) (([b])++(ck x0 b)) 0 x0.f4 ((ax x0 a b).2) ((id a).f3) rfl n y l;cases y with
     |ret d e f g h j =>have f4:=l;exact VZ (DP Tryz.f17 [rT,Wu (a.f3.length:Int),rT,.b false,.ret [Wp ((ax x0 a b).1),Wp ((ax x0 a b).2)],.ret [(false,[Ww 1 ((ck x0 b).map etI)])],.rows ((([b])++(ck x0 b)).map etI),.ret [(true,We .own (id a))],.lp .ret (k6 q0 d e f g h j)] (AV (ψ:=fun k=>E.C k 38 [.agg (Wc .far q0 x0),.agg (We .far a)]=some [Wp true]) (V7 (mT x0 a i) (by rw[m]))<|ALn a.f3 Wi<|AD (V9 (am b 0 (IntKind.wrap .i64 ((a.f3.length:Int)-(1:Int)))) o)<|AC p<|AV (ψ:=fun k=>E.C k 40 [.agg (Wc .far q0 x0),.agg (We .far a),Wr b]=some [Wp ((ax x0 a b).1),Wp ((ax x0 a b).2)]) (bA x0 a b i q s t)<|AV (ψ:=fun k=>E.C k 41 [.agg (Wc .far q0 x0),Wr b]=some [(false,[Ww 1 ((ck x0 b).map etI)])]) (sk x0 b i)<|AAp etI (fun _=>rfl) f2<|AD (jp a f3)<|AL f4<|AN))
     |x0 c =>
      have f4:=l
      (try rw[f1]at f4);exact VZ (DP Tryz.f17 [rT,Wu (a.f3.length:Int),rT,.b false,.ret [Wp ((ax x0 a b).1),Wp true],.ret [(false,[Ww 1 ((ck x0 b).map etI)])],.rows ((([b])++(ck x0 b)).map etI),.ret [(true,We .own (id a))],.lp (.exit 0) (l4 q0 x0.f0 x0.f1 x0.f2 x0.f3 x0.f4 x0.f5 a.f0 a.f1.f0 a.f1.f1 a.f2 a.f3 ByteArray.empty 0 0 0 ([]) true ((id a).f0) (((id a).f1).f0) (((id a).f1).f1) ((id a).f2) c)] (AV (ψ:=fun k=>E.C k 38 [.agg (Wc .far q0 x0),.agg (We .far a)]=some [Wp true]) (V7 (mT x0 a i) (by rw[m]))<|ALn a.f3 Wi<|AD (V9 (am b 0 (IntKind.wrap .i64 ((a.f3.length:Int)-(1:Int)))) o)<|AC p<|AV (ψ:=fun k=>E.C k 40 [.agg (Wc .far q0 x0),.agg (We .far a),Wr b]=some [Wp ((ax x0 a b).1),Wp true]) (V7 (bA x0 a b i q s t) (by rw[f1]))<|AV (ψ:=fun k=>E.C k 41 [.agg (Wc .far q0 x0),Wr b]=some [(false,[Ww 1 ((ck x0 b).map etI)])]) (sk x0 b i)<|AAp etI (fun _=>rfl) f2<|AD (jp a f3)<|AL f4<|AN))
    ·apply V6;intro f5;apply V6;intro f6;apply V6;intro n;apply V5;intro y l;replace l:=yy (q0:=q0) x0.f0 x0.f1 x0.f2 x0.f3 x0.f5 a.f0 a.f1.f0 a.f1.f1 a.f2 a.f3 ByteArray.empty 0 0 0 ([]) (([b])++(ck x0 b)) ((id a).f0) (((id a).f1).f0) (((id a).f1).f1) ((id a).f2) (([b])++(ck x0 b)) 0 x0.f4 ((ax x0 a b).2) ((id a).f3) rfl n y l;cases y with
     |ret d e f g h j =>have f7:=l;exact VZ (DP Tryz.f17 [rT,Wu (a.f3.length:Int),rT,.b false,.ret [Wp ((ax x0 a b).1),Wp ((ax x0 a b).2)],.ret [(false,[Ww 1 ((ck x0 b).map etI)])],.rows ((([b])++(ck x0 b)).map etI),.ret [(true,We .own (id a))],.lp .ret (k6 q0 d e f g h j)] (AV (ψ:=fun k=>E.C k 38 [.agg (Wc .far q0 x0),.agg (We .far a)]=some [Wp true]) (V7 (mT x0 a i) (by rw[m]))<|ALn a.f3 Wi<|AD (V9 (am b 0 (IntKind.wrap .i64 ((a.f3.length:Int)-(1:Int)))) o)<|AC p<|AV (ψ:=fun k=>E.C k 40 [.agg (Wc .far q0 x0),.agg (We .far a),Wr b]=some [Wp ((ax x0 a b).1),Wp ((ax x0 a b).2)]) (bA x0 a b i q s t)<|AV (ψ:=fun k=>E.C k 41 [.agg (Wc .far q0 x0),Wr b]=some [(false,[Ww 1 ((ck x0 b).map etI)])]) (sk x0 b i)<|AAp etI (fun _=>rfl) f5<|AD (jp a f6)<|AL f7<|AN))
     |x0 c =>
      have f7:=l;apply V6;intro u
      (try rw[f1]at f7);exact VZ (DP Tryz.f17 [rT,Wu (a.f3.length:Int),rT,.b false,.ret [Wp ((ax x0 a b).1),Wp false],.ret [(false,[Ww 1 ((ck x0 b).map etI)])],.rows ((([b])++(ck x0 b)).map etI),.ret [(true,We .own (id a))],.lp (.exit 0) (l4 q0 x0.f0 x0.f1 x0.f2 x0.f3 x0.f4 x0.f5 a.f0 a.f1.f0 a.f1.f1 a.f2 a.f3 ByteArray.empty 0 0 0 ([]) false ((id a).f0) (((id a).f1).f0) (((id a).f1).f1) ((id a).f2) c),.ret [(true,We .own (kr x0 (GRun.mk ((id a).f0) ((id a).f1) (inc a.f2) c)))]] (AV (ψ:=fun k=>E.C k 38 [.agg (Wc .far q0 x0),.agg (We .far a)]=some [Wp true]) (V7 (mT x0 a i) (by rw[m]))<|ALn a.f3 Wi<|AD (V9 (am b 0 (IntKind.wrap .i64 ((a.f3.length:Int)-(1:Int)))) o)<|AC p<|AV (ψ:=fun k=>E.C k 40 [.agg (Wc .far q0 x0),.agg (We .far a),Wr b]=some [Wp ((ax x0 a b).1),Wp false]) (V7 (bA x0 a b i q s t) (by rw[f1]))<|AV (ψ:=fun k=>E.C k 41 [.agg (Wc .far q0 x0),Wr b]=some [(false,[Ww 1 ((ck x0 b).map etI)])]) (sk x0 b i)<|AAp etI (fun _=>rfl) f5<|AD (jp a f6)<|AL f7<|AV (ψ:=fun k=>E.C k 42 [.agg (Wc .far q0 x0),.agg (We .far (GRun.mk ((id a).f0) ((id a).f1) (inc a.f2) c))]=some [(true,We .own (kr x0 (GRun.mk ((id a).f0) ((id a).f1) (inc a.f2) c)))]) (Iz x0 (GRun.mk ((id a).f0) ((id a).f1) (inc a.f2) c) i u)<|AN))
  ·exact VZ (DP Tryz.f17 [rT,Wu (a.f3.length:Int),rF] (AV (ψ:=fun k=>E.C k 38 [.agg (Wc .far q0 x0),.agg (We .far a)]=some [Wp true]) (V7 (mT x0 a i) (by rw[m]))<|ALn a.f3 Wi<|AD (V9 (am b 0 (IntKind.wrap .i64 ((a.f3.length:Int)-(1:Int)))) o)<|AN))
 ·exact VZ (DP Tryz.f17 [rF] (AV (ψ:=fun k=>E.C k 38 [.agg (Wc .far q0 x0),.agg (We .far a)]=some [Wp false]) (V7 (mT x0 a i) (by rw[m]))<|AN))
inductive xV where|ret (v6_0:Zz) (v6_1 v6_2 v6_3:Int) (v6_4:List GState) (v7:Bool)|x0 (v11_4:List GState)
def fP (q0:Kd)(e v3_1:Zz)(v3_2 f:Int)(g:Bool)(v3_5:List GTask)(h:Zz)(i j k:Int)(l:List GState)(v6_0:Zz)(v6_1 v6_2 v6_3:Int)(v6_4:List GState)(v9:Bool)(a:Zz)(b c d:Int)(v11_4:List GState)(m:List Int)(v46 n:Int):US:=stL 75 [(3,.box () [tS e,tS v3_1,tI v3_2,tI f,tB g,Wx 5 (v3_5.map (Wj q0))]),(4,.box () [tS h,tI i,tI j,tI k,Wx 4 (l.map Wi)]),(6,.box () [tS v6_0,tI v6_1,tI v6_2,tI v6_3,Ww 4 (v6_4.map Wi)]),(9,Ws v9),(11,.box () [tS a,tI b,tI c,tI d,Ww 4 (v11_4.map Wi)]),(45,.one (Ww 1 (m.map etI))),(46,Wr v46),(47,Wr n)]
def kX (q0:Kd)(a:Zz)(b c d:Int)(e:List GState)(f:Bool):US:=stL 75 [(6,.box () [tS a,tI b,tI c,tI d,Ww 4 (e.map Wi)]),(7,Ws f)]
def lP (q0:Kd)(f v3_1:Zz)(v3_2 g:Int)(h:Bool)(v3_5:List GTask)(v6_0:Zz)(v6_1 v6_2 v6_3:Int)(v6_4:List GState)(b:Zz)(c d e:Int)(a:List GState):US:=stL 75 [(3,.box () [tS f,tS v3_1,tI v3_2,tI g,tB h,Wx 5 (v3_5.map (Wj q0))]),(6,.box () [tS v6_0,tI v6_1,tI v6_2,tI v6_3,Ww 4 (v6_4.map Wi)]),(11,.box () [tS b,tI c,tI d,tI e,Ww 4 (a.map Wi)])]
abbrev la:US→Exit→US→Prop:=Round E 52 (aq Tryz.f52 0)
def Gn {q0:Kd}(e v3_1:Zz)(v3_2 f:Int)(g:Bool)(v3_5:List GTask)(i:Zz)(j k l:Int)(m:List GState)(v6_0:Zz)(v6_1 v6_2 v6_3:Int)(v6_4:List GState)(v9:Bool)(a:Zz)(b c d:Int)(v11_4:List GState)(s:List Int)(v46 t:Int):xV→Prop| .ret n o p q r u=>Loops E 52 (aq Tryz.f52 0) (fP q0 e v3_1 v3_2 f g v3_5 i j k l m v6_0 v6_1 v6_2 v6_3 v6_4 v9 a b c d v11_4 s v46 t) .ret (kX q0 n o p q r u)| .x0 h=>Loops E 52 (aq Tryz.f52 0) (fP q0 e v3_1 v3_2 f g v3_5 i j k l m v6_0 v6_1 v6_2 v6_3 v6_4 v9 a b c d v11_4 s v46 t) (.exit 0) (lP q0 e v3_1 v3_2 f g v3_5 v6_0 v6_1 v6_2 v6_3 v6_4 a b c d h)
noncomputable def eL (b:List GState)(c:List Int)(v46:Int):Nat→Bool→Bool→(List GState)→Int→Option xV
 | 0,_,_,_,_=>none
 |n+1,d,v9,v11_4,a=>match v9 with
  |true=>cond (decide (a<v46))
   ((ar c a).bind fun e=>some (.ret ByteArray.empty 0 0 0 ([]) false))
   (some (.x0 v11_4))
  |false=>cond (decide (a<v46))
   ((ar c a).bind fun e=>(ar b e).bind fun g1=>cond (g1.f0==(1:Int))
    (some (.ret ByteArray.empty 0 0 0 ([]) false))
    ((ar v11_4 e).bind fun f=>eL b c v46 n d false (v11_4.set e.toNat (GState.mk 0 0 0 0)) (inc a)))
   (some (.x0 v11_4))
theorem Gm {q0:Kd}(f v3_1:Zz)(v3_2 g:Int)(v3_5:List GTask)(i:Zz)(j k l:Int)(h:List GState)(v6_0:Zz)(v6_1 v6_2 v6_3:Int)(v6_4:List GState)(a:Zz)(b c d:Int)(o:List Int)(v46:Int)(n:Nat):∀(e v9:Bool)(v11_4:List GState)(m:Int),Ans (eL h o v46 n e v9 v11_4 m) (Gn (q0:=q0) f v3_1 v3_2 g e v3_5 i j k l h v6_0 v6_1 v6_2 v6_3 v6_4 v9 a b c d v11_4 o v46 m):=by
 induction n with
 |zero=>intros;exact Ans.none
 |succ n x =>
  intro e v9 v11_4 m;unfold eL;cases v9 with
  |true =>
   apply V4<;>intro s
   ·apply V5;intro q t;exact VZ (V3 (show la (fP q0 f v3_1 v3_2 g e v3_5 i j k l h v6_0 v6_1 v6_2 v6_3 v6_4 true a b c d v11_4 o v46 m) .ret (kX q0 ByteArray.empty 0 0 0 ([]) false)from RP [.b true,.row (etI q)] (AC s<|AG etI t<|AN)))
   ·exact VZ (V3 (show la (fP q0 f v3_1 v3_2 g e v3_5 i j k l h v6_0 v6_1 v6_2 v6_3 v6_4 true a b c d v11_4 o v46 m) (.exit 0) (lP q0 f v3_1 v3_2 g e v3_5 v6_0 v6_1 v6_2 v6_3 v6_4 a b c d v11_4)from RP [.b false] (AC s<|AN)))
  |false =>
   apply V4<;>intro s
   ·apply V5;intro q t;apply V5;intro g1 u;apply V4<;>intro v
    ·exact VZ (V3 (show la (fP q0 f v3_1 v3_2 g e v3_5 i j k l h v6_0 v6_1 v6_2 v6_3 v6_4 false a b c d v11_4 o v46 m) .ret (kX q0 ByteArray.empty 0 0 0 ([]) false)from RP [.b true,.row (etI q),.row (Wi g1),.b true] (AC s<|AG etI t<|AR Wi u<|AC v<|AN)))
    ·apply V5;intro w z;have r:la (fP q0 f v3_1 v3_2 g e v3_5 i j k l h v6_0 v6_1 v6_2 v6_3 v6_4 false a b c d v11_4 o v46 m) .normal (fP q0 f v3_1 v3_2 g e v3_5 i j k l h v6_0 v6_1 v6_2 v6_3 v6_4 false a b c d (v11_4.set q.toNat ZI) o v46 (inc m)):=RP [.b true,.row (etI q),.row (Wi g1),.b false,.row (Wi w),.rows ((v11_4.set q.toNat ZI).map Wi)] (AC s<|AG etI t<|AR Wi u<|AC v<|AG Wi z<|AC (p:=(v11_4.map Wi).set (0+q.toNat) (au (Wi w) 0 [tI 0,tI 0,tI 0,tI 0])=(v11_4.set q.toNat ZI).map Wi) (cu (by rfl))<|AN);exact(x e false (v11_4.set q.toNat ZI) (inc m)).mono fun y A=>by cases y<;>exact V2 r A
   ·exact VZ (V3 (show la (fP q0 f v3_1 v3_2 g e v3_5 i j k l h v6_0 v6_1 v6_2 v6_3 v6_4 false a b c d v11_4 o v46 m) (.exit 0) (lP q0 f v3_1 v3_2 g e v3_5 v6_0 v6_1 v6_2 v6_3 v6_4 a b c d v11_4)from RP [.b false] (AC s<|AN)))
noncomputable def o7 (c:GDag)(b:GRun)(d:Int):Option (GRun×Bool):=
  cond (nb c d)
   (if ab.sm c then cond (pm c b)
    (cond (b.f2==(1000:Int))
     (some ((GRun.mk ByteArray.empty (GSpan.mk 0 0) 0 ([]:List GState)),false))
     (if aY c=true then if b.f3.length=c.f5.length then if 0≤d∧d<(c.f5.length:Int)then if(([d]).length+(bP c d).length)*8≤140737488355328∧([d]).length+(bP c d).length≤4611686018427387904 then if ab.sm b then(eL b.f3 (([d])++(bP c d)) ((([d])++(bP c d)).length:Int) 9223372036854775808 c.f4 ((bf c b d).2) ((id b).f3) 0).bind fun y=>match y with
      | .ret e f g h i j=>(some ((GRun.mk e (GSpan.mk f g) h i),j))
      | .x0 a=>(if ab.sm (GRun.mk ((id b).f0) ((id b).f1) ((id b).f2) a)then if(GRun.mk ((id b).f0) ((id b).f1) ((id b).f2) a).f3.length=c.f5.length then some ((GRun.mk ((jO (GRun.mk ((id b).f0) ((id b).f1) ((id b).f2) a) c).f0) ((jO (GRun.mk ((id b).f0) ((id b).f1) ((id b).f2) a) c).f1) (inc ((jO (GRun.mk ((id b).f0) ((id b).f1) ((id b).f2) a) c).f2)) ((jO (GRun.mk ((id b).f0) ((id b).f1) ((id b).f2) a) c).f3)),true)else none else none)else none else none else none else none else none))
    (some ((GRun.mk ByteArray.empty (GSpan.mk 0 0) 0 ([]:List GState)),false))else none)
   (some ((GRun.mk ByteArray.empty (GSpan.mk 0 0) 0 ([]:List GState)),false))
theorem IF {q0:Kd}(x0:GDag)(a:GRun)(b:Int):Ans (o7 x0 a b) (fun r=>Does E 52 [.agg (Wc .far q0 x0),.agg (We .far a),Wr b] [(true,We .own r.1),Wp r.2]):=by
 unfold o7;apply V4<;>intro j
 ·apply V6;intro d;apply V4<;>intro n
  ·apply V4<;>intro q
   ·exact VZ (DP Tryz.f52 [rT,rT,.b true] (AV (ψ:=fun k=>E.C k 77 [.agg (Wc .far q0 x0),Wr b]=some [Wp true]) (V7 (ql x0 b) (by rw[j]))<|AV (ψ:=fun k=>E.C k 78 [.agg (Wc .far q0 x0),.agg (We .far a)]=some [Wp true]) (V7 (vB x0 a d) (by rw[n]))<|AC q<|AN))
   ·apply V6;intro l;apply V6;intro v;apply V6;intro o;apply V6;intro w;apply V6;intro x;apply V5;intro y p;replace p:=Gm (q0:=q0) x0.f0 x0.f1 x0.f2 x0.f3 x0.f5 a.f0 a.f1.f0 a.f1.f1 a.f2 a.f3 ByteArray.empty 0 0 0 ([]) ((id a).f0) (((id a).f1).f0) (((id a).f1).f1) ((id a).f2) (([b])++(bP x0 b)) ((([b])++(bP x0 b)).length:Int) 9223372036854775808 x0.f4 ((bf x0 a b).2) ((id a).f3) 0 y p;cases y with
    |ret e f g h i m =>have s:=p;exact VZ (DP Tryz.f52 [rT,rT,.b false,.ret [Wp ((bf x0 a b).1),Wp ((bf x0 a b).2)],.ret [(false,[Ww 1 ((bP x0 b).map etI)])],.rows ((([b])++(bP x0 b)).map etI),.ret [(true,We .own (id a))],Wu ((([b])++(bP x0 b)).length:Int),.lp .ret (kX q0 e f g h i m)] (AV (ψ:=fun k=>E.C k 77 [.agg (Wc .far q0 x0),Wr b]=some [Wp true]) (V7 (ql x0 b) (by rw[j]))<|AV (ψ:=fun k=>E.C k 78 [.agg (Wc .far q0 x0),.agg (We .far a)]=some [Wp true]) (V7 (vB x0 a d) (by rw[n]))<|AC q<|AV (ψ:=fun k=>E.C k 79 [.agg (Wc .far q0 x0),.agg (We .far a),Wr b,.fni 80 []]=some [Wp ((bf x0 a b).1),Wp ((bf x0 a b).2)]) (cA x0 a b d l v o)<|AV (ψ:=fun k=>E.C k 81 [.agg (Wc .far q0 x0),Wr b]=some [(false,[Ww 1 ((bP x0 b).map etI)])]) (HP x0 b d l o)<|AAp etI (fun _=>rfl) w<|AD (wE a x)<|ALn (([b])++(bP x0 b)) etI<|AL s<|AN))
    |x0 c =>have s:=p;apply V6;intro t;apply V6;intro u;exact VZ (DP Tryz.f52 [rT,rT,.b false,.ret [Wp ((bf x0 a b).1),Wp ((bf x0 a b).2)],.ret [(false,[Ww 1 ((bP x0 b).map etI)])],.rows ((([b])++(bP x0 b)).map etI),.ret [(true,We .own (id a))],Wu ((([b])++(bP x0 b)).length:Int),.lp (.exit 0) (lP q0 x0.f0 x0.f1 x0.f2 x0.f3 x0.f4 x0.f5 ByteArray.empty 0 0 0 ([]) ((id a).f0) (((id a).f1).f0) (((id a).f1).f1) ((id a).f2) c),.ret [(true,We .own (jO (GRun.mk ((id a).f0) ((id a).f1) ((id a).f2) c) x0))]] (AV (ψ:=fun k=>E.C k 77 [.agg (Wc .far q0 x0),Wr b]=some [Wp true]) (V7 (ql x0 b) (by rw[j]))<|AV (ψ:=fun k=>E.C k 78 [.agg (Wc .far q0 x0),.agg (We .far a)]=some [Wp true]) (V7 (vB x0 a d) (by rw[n]))<|AC q<|AV (ψ:=fun k=>E.C k 79 [.agg (Wc .far q0 x0),.agg (We .far a),Wr b,.fni 80 []]=some [Wp ((bf x0 a b).1),Wp ((bf x0 a b).2)]) (cA x0 a b d l v o)<|AV (ψ:=fun k=>E.C k 81 [.agg (Wc .far q0 x0),Wr b]=some [(false,[Ww 1 ((bP x0 b).map etI)])]) (HP x0 b d l o)<|AAp etI (fun _=>rfl) w<|AD (wE a x)<|ALn (([b])++(bP x0 b)) etI<|AL s<|AV (ψ:=fun k=>E.C k 82 [.box () (We .own (GRun.mk ((id a).f0) ((id a).f1) ((id a).f2) c)),.agg (Wc .far q0 x0)]=some [(true,We .own (jO (GRun.mk ((id a).f0) ((id a).f1) ((id a).f2) c) x0))]) (CC (GRun.mk ((id a).f0) ((id a).f1) ((id a).f2) c) x0 d t l u)<|AN))
  ·exact VZ (DP Tryz.f52 [rT,rF] (AV (ψ:=fun k=>E.C k 77 [.agg (Wc .far q0 x0),Wr b]=some [Wp true]) (V7 (ql x0 b) (by rw[j]))<|AV (ψ:=fun k=>E.C k 78 [.agg (Wc .far q0 x0),.agg (We .far a)]=some [Wp false]) (V7 (vB x0 a d) (by rw[n]))<|AN))
 ·exact VZ (DP Tryz.f52 [rF] (AV (ψ:=fun k=>E.C k 77 [.agg (Wc .far q0 x0),Wr b]=some [Wp false]) (V7 (ql x0 b) (by rw[j]))<|AN))
theorem Ki (d:GDag)(r:GRun)(hd:aY d=true)(a:r.f3.length=d.f5.length):kr d r=jO r d:=by unfold kr;rw[hd,show((r.f3.length:Int)==(d.f5.length:Int))=true by rw[Yc];omega];rfl
theorem wK (d:GDag)(g a:GRun):∀(l:List Int)(v:List GState),gO d g l v=gO d a l v
 |[],v=>rfl
 |k::l,v=>by unfold gO;rw[wK d g a l];rfl
def jg:List Int→List GState→List GState|[],v=>v|k::l,v=>jg l (v.set k.toNat ⟨0,0,0,0⟩)
theorem qu:∀(l:List Int)(v:List GState),(jg l v).length=v.length
 |[],v=>rfl
 |k::l,v=>by unfold jg;rw[qu l,Yj]
def KM (ts:List GState)(k:Int):Bool:=match ar ts k with
 |some x=>x.f0==1
 |none=>false
def uj (ts:List GState):List Int→Bool|[]=>true|k::l => !KM ts k&&uj ts l
theorem Ov (ts:List GState):∀(l:List Int)(i:Nat)(z b:Bool)(v:List GState),v.length=ts.length→(∀x∈l,0≤x∧x<(ts.length:Int)) →
  fZ ts l i z b v=some (cond (uj ts l) (.x0 (jg l v)) (.ret ByteArray.empty 0 0 0 [] false))
 |[],i,z,b,v,_,_=>rfl
 |k::l,i,z,b,v,hv,a=>by
  obtain⟨x,d,_⟩:=eK (a k (by simp));obtain⟨y,c,_⟩:=eK (l:=v) (k:=k) (by have:=a k (by simp);omega);have e:=Ov ts l (i+1) z b (v.set k.toNat ⟨0,0,0,0⟩) (by rw[Yj];exact hv) fun y c=>a y (by simp[c])
  unfold fZ uj jg KM;simp only[d,c,Wy,e];cases x.f0==1<;>rfl
theorem Ou (ts:List GState)(aL:List Int)(hf:∀x∈aL,0≤x∧x<(ts.length:Int))(c:aL.length≤1000):∀(m k n:Nat)(z:Bool)(v:List GState),k+m=aL.length→m<n→v.length=ts.length →
  eL ts aL (aL.length:Int) n z false v (k:Int)=some (cond (uj ts (aL.drop k)) (.x0 (jg (aL.drop k) v)) (.ret ByteArray.empty 0 0 0 [] false))
 |m,k,0,z,v,_,b,_=>by omega
 | 0,k,n+1,z,v,d,b,hv=>by have hd:aL.drop k=[]:=Xn (by omega);have hc:decide ((k:Int)<(aL.length:Int))=false:=WH (by omega);rw[hd];unfold eL;rw[hc];rfl
 |m+1,k,n+1,z,v,d,b,hv=>by
  have a:k<aL.length:=by omega
  have hd:aL.drop k=aL[k]::aL.drop (k+1):=XQ a;have hc:decide ((k:Int)<(aL.length:Int))=true:=WJ (by omega);have f:ar aL (k:Int)=some aL[k]:=by rw[dA];exact WE a
  have g:=hf aL[k] (XW _);obtain⟨x,h,_⟩:=eK g;obtain⟨y,i,_⟩:=eK (l:=v) (k:=aL[k]) (by omega);have e:inc (k:Int)=((k+1:Nat):Int):=by rw[cr _ (by omega) (by omega)];omega
  have j:=Ou ts aL hf c m (k+1) n z (v.set aL[k].toNat ⟨0,0,0,0⟩) (by omega) (by omega) (by rw[Yj];exact hv);rw[hd];unfold eL uj jg KM;simp only[hc,f,h,i,e,Wy,WK,j];cases x.f0==1<;>rfl
noncomputable def ae (d:GDag)(r:GRun)(i:Int):GRun×Bool:=cond (pm d r&&(nb d i&&(!(r.f2==1000)&&(!(bf d r i).2&&uj r.f3 (i::bP d i))))) (⟨r.f0,r.f1,inc r.f2,gO d r (cn d.f5) (jg (i::bP d i) r.f3)⟩,true) (⟨ByteArray.empty,⟨0,0⟩,0,[]⟩,false)
theorem Mo (d:GDag)(r:GRun)(i:Int)(g:ab.sm r):ab.sm (ae d r i).1:=by
 unfold ae;cases pm d r&&(nb d i&&(!(r.f2==1000)&&(!(bf d r i).2&&uj r.f3 (i::bP d i))))with
 |false=>exact⟨(by decide:(ByteArray.empty).size≤1050000),trivial,⟨by simp,fun y a=>by cases a⟩⟩
 |true=>exact⟨g.1,g.2.1,⟨by show(gO d r (cn d.f5) (jg (i::bP d i) r.f3)).length≤_;rw[CT,qu];exact g.2.2.1,fun y _=>trivial⟩⟩
theorem EI (d:GDag)(r:GRun)(i:Int)(h:ab.sm d)(g:ab.sm r):po d r i=some (ae d r i)∧o7 d r i=some (ae d r i):=by
 unfold po o7 ae;cases q:pm d r with
 |false=>refine⟨?_,?_⟩<;>simp only[Wz h]<;>cases nb d i<;>rfl
 |true =>
  have c:=q;unfold pm at c;rw[W0]at c;have f:=LQ c.2;have e:ak i 0 (IntKind.wrap .i64 ((r.f3.length:Int)-1))=nb d i:=by rw[f];rfl
  rw[e];cases q1:nb d i with
  |false=>refine⟨?_,?_⟩<;>simp only[Wz h]<;>rfl
  |true =>
   cases B:r.f2==1000 with
   |true=>refine⟨?_,?_⟩<;>simp only[Wz h]<;>rfl
   |false =>
    have hi:=H8 q1 h;obtain⟨-,⟨s,l⟩, -⟩:=DM d i h c.1 hi;have t:ck d i=bP d i:=by unfold ck;rw[c.1,q1];rfl
    have hf:∀x∈i::bP d i,0≤x∧x<(r.f3.length:Int):=fun x hx=>by
     rw[f];rcases WZ.1 hx with rfl|hx
     ·exact hi
     ·exact l x hx
    have u:(i::bP d i).length≤1000:=by rw[W4];omega
    have n:(([i]:List Int).length+(bP d i).length)*8≤140737488355328∧([i]:List Int).length+(bP d i).length≤4611686018427387904:=by rw[YK];omega
    have C:([i]++bP d i).length≤9223372036854775807:=by rw[Zh,YK];omega
    have o:[i]++bP d i=i::bP d i:=rfl;have w:(i::bP d i).length≤9223372036854775807:=by omega
    have j:(jg (i::bP d i) r.f3).length=d.f5.length:=(qu _ _).trans f;have hs:=fun b=>Ov r.f3 (i::bP d i) 0 d.f4 b r.f3 rfl hf
    have hit:=Ou r.f3 (i::bP d i) hf u (i::bP d i).length 0 9223372036854775808 d.f4 r.f3 (by omega) (by omega) rfl;rw[W9]at hit;have z:ax d r i=((bX d r i).1,(bf d r i).2):=rfl;have p:id r=r:=rfl;have k:∀a,ab.sm (GRun.mk r.f0 r.f1 a (jg (i::bP d i) r.f3)):=fun a=>⟨g.1,g.2.1,⟨by show(jg _ _).length≤_;rw[qu];exact g.2.2.1,fun y _=>trivial⟩⟩
    have m:∀a,(GRun.mk r.f0 r.f1 a (jg (i::bP d i) r.f3)).f3.length=d.f5.length:=fun a=>by show(jg _ _).length=_;rw[qu];exact f
    have hb:∀a,kr d (GRun.mk r.f0 r.f1 a (jg (i::bP d i) r.f3))=jO (GRun.mk r.f0 r.f1 a (jg (i::bP d i) r.f3)) d:=fun a=>Ki d _ c.1 (m a)
    refine⟨?_,?_⟩
    ·simp only[Wz h,WK,WO,Wz c.1,Wz f,Wz hi,z,t,Wz n,Wz g,o,Wz w,p,hs];cases(bf d r i).2<;>cases uj r.f3 (i::bP d i)<;>simp only[WK,WO,Wy,Wz (k _),hb]<;>try rfl
     show some (GRun.mk _ _ _ (gO d _ _ _),true)=some (GRun.mk _ _ _ (gO d _ _ _),true);rw[wK d _ r]
    ·simp only[Wz h,WK,WO,Wz c.1,Wz f,Wz hi,Wz n,Wz g,o,p];cases(bf d r i).2 with
     |true =>
      have hz:∀v,eL r.f3 (i::bP d i) ((i::bP d i).length:Int) 9223372036854775808 d.f4 true v 0=some (.ret ByteArray.empty 0 0 0 [] false):=fun v=>by unfold eL;have hc:decide ((0:Int)<((i::bP d i).length:Int))=true:=WJ (by rw[W4];omega);have A:ar (i::bP d i) 0=some i:=rfl;simp only[hc,A,WK,Wy]
      rw[hz];rfl
     |false =>
      rw[show(0:Int)=((0:Nat):Int)from rfl,hit];cases uj r.f3 (i::bP d i)<;>simp only[WK,WO,Wy,Wz (k _),Wz j]
      ·rfl
      ·show some (GRun.mk _ _ _ (gO d _ _ _),true)=some (GRun.mk _ _ _ (gO d _ _ _),true);rw[wK d _ r];rfl
theorem zS {q0:Kd}(a:GDag)(b:GRun)(c:Int)(h:ab.sm a)(g:ab.sm b):Does E 17 [.agg (Wc .far q0 a),.agg (We .far b),Wr c] [(true,We .own ((ae a b c).1)),Wp ((ae a b c).2)]:=by exact Jq a b c _ (EI a b c h g).1
theorem zM {q0:Kd}(a:GDag)(b:GRun)(c:Int)(h:ab.sm a)(g:ab.sm b):Does E 52 [.agg (Wc .far q0 a),.agg (We .far b),Wr c] [(true,We .own ((ae a b c).1)),Wp ((ae a b c).2)]:=by exact IF a b c _ (EI a b c h g).2
end
end Go.Proofs.YtlgddjncnedkgaaGreatDoor.Am
