/- What the functions that measure, copy and compare boards do. -/
import Derived.Test.YtlgddjncnedkgaaGreatDoorPlans
namespace Go.Proofs.YtlgddjncnedkgaaGreatDoor.Am
open Go
set_option linter.unusedVariables false
set_option linter.unusedSimpArgs false
section
open Go.Proofs Classical
set_option maxRecDepth 100000
noncomputable def ke (a:GSession)(b:Int):Option (Int):=cond (decide ((IntKind.wrap .i64 (b-(a.f2.size:Int)))<(0:Int))) (some ((-1:Int))) (some (IntKind.wrap .i64 (b-(a.f2.size:Int))))
theorem Ja (a:GSession)(b:Int):Ans (ke a b) (fun r=>Does E 33 [.agg (Wg a),Wr b] [Wo r]):=by
 unfold ke;apply V4<;>intro c
 ·exact VZ (DP Tryz.f33 [.no,.b true] (AC c<|AN))
 ·exact VZ (DP Tryz.f33 [.no,.b false] (AC c<|AN))
noncomputable def dm (x:GSession)(n:Int):Int:=(ke x n).getD (-1)
theorem wz (x:GSession)(n:Int)(h:Wf.wf x):ke x n=some (dm x n):=by have a:Wf.wf x.f2:=h;refine Tot.getD ?_ _;unfold ke;repeat' (first|exact Tot.some _|apply Tot.cond|refine Tot.ite (by assumption) ?_)
theorem zQ (a:GSession)(b:Int)(h:Wf.wf a):Does E 33 [.agg (Wg a),Wr b] [Wo (dm a b)]:=by exact Ja a b _ (wz a b h)
theorem GR (x:GSession)(n:Int)(a:Wf.wf x)(b:0≤n)(g:n≤1048576)(h:0≤dm x n):dm x n≤n∧ab.sm x:=by have e:=wz x n a;have c:Wf.wf x.f2:=a;generalize dm x n=r at *;unfold ke at e;obtain⟨d,e⟩:=gL e h;obtain⟨i,f⟩:=oo (n:=n) (k:=x.f2.size) b (by omega) c d;generalize IntKind.wrap .i64 (n-(x.f2.size:Int))=j at *;cases e;exact⟨by omega,ip f⟩
inductive we where|ret (v4:Int)|x0 (v1:Int)
def iY (v0:List GSession)(v1 v5:Int):US:=stL 27 [(0,.one (Wx 3 (v0.map Wg))),(1,Wr v1),(5,Wr v5)]
def nh (a:Int):US:=stL 27 [(4,Wr a)]
def oE (a:Int):US:=stL 27 [(1,Wr a)]
abbrev qT:US→Exit→US→Prop:=Round E 11 (aq Tryz.f11 0)
def Fq (v0:List GSession)(v1 v5:Int):we→Prop| .ret a=>Loops E 11 (aq Tryz.f11 0) (iY v0 v1 v5) .ret (nh a)| .x0 b=>Loops E 11 (aq Tryz.f11 0) (iY v0 v1 v5) (.exit 0) (oE b)
noncomputable def d7  : List GSession→Nat→Int→Option we|[],i,v1=>some (.x0 v1)|hd::rest,i,v1=>if Wf.wf hd then cond (decide ((dm hd v1)<(0:Int))) (some (.ret (-1:Int))) (d7 rest (i+1) (dm hd v1))else none
theorem Fp (v0:List GSession)(rest:List GSession):∀(i:Nat)(v1:Int),(v0).drop i=rest→v0.length≤9223372036854775807→Ans (d7 rest i v1) (Fq v0 v1 (i:Int)):=by
 induction rest with
 |nil =>intro i v1 a b;have hb:=aP a;unfold d7;exact VZ (V3 (show qT (iY v0 v1 (i:Int)) (.exit 0) (oE v1)from RP [Wu (v0.length:Int),.b false] (ALn v0 Wg<|AC hb<|AN)))
 |cons hd rest g =>
  intro i v1 a b;have hb:=aI a;have h:=aJ a b;have c:=az a;have d:=aK a;unfold d7;apply V6;intro e;apply V4<;>intro f
  ·exact VZ (V3 (show qT (iY v0 v1 (i:Int)) .ret (nh (-1:Int))from RP [Wu (v0.length:Int),.b true,.row (Wg hd),.ret [Wo (dm hd v1)],.b true] (ALn v0 Wg<|AC hb<|AR Wg d<|AD (zQ hd v1 e)<|AC f<|AN)))
  ·exact(g (i+1) (dm hd v1) c b).mono fun y j=>by have r:qT (iY v0 v1 (i:Int)) .normal (iY v0 (dm hd v1) (inc (i:Int))):=RP [Wu (v0.length:Int),.b true,.row (Wg hd),.ret [Wo (dm hd v1)],.b false] (ALn v0 Wg<|AC hb<|AR Wg d<|AD (zQ hd v1 e)<|AC f<|AN);rw[h]at r;cases y<;>exact V2 r j
noncomputable def jH (c:List GSession)(d:Int):Option (Int):=
  cond (decide ((IntKind.wrap .i64 (d-(c.length:Int)))<(0:Int)))
   (some ((-1:Int)))
   (if c.length≤9223372036854775807 then(d7 c 0 (IntKind.wrap .i64 (d-(c.length:Int)))).bind fun y=>match y with
    | .ret a=>(some (a))
    | .x0 b=>(some (b))else none)
theorem GK (x0:List GSession)(d:Int):Ans (jH x0 d) (fun r=>Does E 11 [.one (Wx 3 (x0.map Wg)),Wr d] [Wo r]):=by
 unfold jH;apply V4<;>intro e
 ·exact VZ (DP Tryz.f11 [Wu (x0.length:Int),.no,.b true] (ALn x0 Wg<|AC e<|AN))
 ·apply V6;intro f;apply V5;intro y c;replace c:=Fp x0 x0 0 (IntKind.wrap .i64 (d-(x0.length:Int))) rfl f y c;cases y with
  |ret a =>have g:=c;exact VZ (DP Tryz.f11 [Wu (x0.length:Int),.no,.b false,.lp .ret (nh a)] (ALn x0 Wg<|AC e<|AL g<|AN))
  |x0 b =>have g:=c;exact VZ (DP Tryz.f11 [Wu (x0.length:Int),.no,.b false,.lp (.exit 0) (oE b)] (ALn x0 Wg<|AC e<|AL g<|AN))
noncomputable def aM (x:List GSession)(n:Int):Int:=(jH x n).getD (-1)
theorem wy:∀(rest:List GSession)(i:Nat)(n:Int),(∀y∈rest,Wf.wf y)→Tot (d7 rest i n)
 |[],i,n,_=>Tot.some _
 |x::rest,i,n,h=>by
  have c:=h x (by simp);have a:=fun i n=>wy rest i n fun y b=>h y (by simp[b])
  unfold d7;repeat' (first|exact Tot.some _|exact a _ _|apply Tot.cond|refine Tot.ite (by assumption) ?_)
theorem vr (x:List GSession)(n:Int)(h:Wf.wf x):jH x n=some (aM x n):=by refine Tot.getD ?_ _;unfold jH;refine Tot.cond (Tot.some _) ?_;refine Tot.ite h.1 (Tot.bind (wy x 0 _ h.2) fun y a=>?_);cases y<;>exact Tot.some _
theorem ny (a:List GSession)(b:Int)(h:Wf.wf a):Does E 11 [.one (Wx 3 (a.map Wg)),Wr b] [Wo (aM a b)]:=by exact GK a b _ (vr a b h)
theorem u9:∀(rest:List GSession)(i:Nat)(n:Int),(∀y∈rest,Wf.wf y)→0≤n→n≤1048576→∀y,d7 rest i n=some y →
  (∃m,y = .x0 m∧0≤m∧m≤n∧∀z∈rest,ab.sm z)∨∃m,y = .ret m∧m<0
 |[],i,n,_,a,f,y,e=>by cases e;exact .inl ⟨n,rfl,a,XA _,fun z hz=>by cases hz⟩
 |x::rest,i,n,h,a,f,y,e=>by
  have d:=h x (by simp);unfold d7 at e;try rw[Wz d]at e
  by_cases q:dm x n<0
  ·rw[WJ q,WK]at e;cases e;exact .inr ⟨_,rfl,by omega⟩
  ·rw[WH q,WO]at e;try rw[Wz d]at e
   obtain⟨b,c⟩:=GR x n d a f (by omega);rcases u9 rest _ _ (fun y j=>h y (by simp[j])) (by omega) (by omega) y e with⟨m,g1,k,g3,g4⟩|g
   ·refine .inl ⟨m,g1,k,by omega,fun z hz=>?_⟩;rcases WZ.1 hz with rfl|hz
    ·exact c
    ·exact g4 z hz
   ·exact .inr g
theorem Fv (x:List GSession)(n:Int)(a:Wf.wf x)(d:0≤n)(f:n≤1048576)(h:0≤aM x n):aM x n≤n∧ab.sm x:=by
 have e:=vr x n a;generalize aM x n=r at *;unfold jH at e;obtain⟨b,e⟩:=gL e h;obtain⟨l,i⟩:=oo (n:=n) (k:=x.length) d f a.1 b;rw[Wz a.1,WA]at e;obtain⟨y,j,c⟩:=e;rcases u9 x 0 _ a.2 b (by omega) y j with⟨m,rfl,o,g3,g4⟩|⟨m,rfl,g⟩
 ·cases c;exact⟨by omega,ip i,g4⟩
 ·cases c;omega
inductive ye where|ret (v4:Int)|x0 (v1:Int)
def jI (v0:List Zz)(v1 v5:Int):US:=stL 28 [(0,.one (Wx 1 (v0.map etS))),(1,Wr v1),(5,Wr v5)]
def oF (a:Int):US:=stL 28 [(4,Wr a)]
def pN (a:Int):US:=stL 28 [(1,Wr a)]
abbrev rL:US→Exit→US→Prop:=Round E 126 (aq Tryz.f126 0)
def GM (v0:List Zz)(v1 v5:Int):ye→Prop| .ret a=>Loops E 126 (aq Tryz.f126 0) (jI v0 v1 v5) .ret (oF a)| .x0 b=>Loops E 126 (aq Tryz.f126 0) (jI v0 v1 v5) (.exit 0) (pN b)
noncomputable def eO  : List Zz→Nat→Int→Option ye|[],i,v1=>some (.x0 v1)|hd::rest,i,v1=>cond (decide ((IntKind.wrap .i64 (v1-(hd.size:Int)))<(0:Int))) (some (.ret (-1:Int))) (eO rest (i+1) (IntKind.wrap .i64 (v1-(hd.size:Int))))
theorem GL (v0:List Zz)(rest:List Zz):∀(i:Nat)(v1:Int),(v0).drop i=rest→v0.length≤9223372036854775807→Ans (eO rest i v1) (GM v0 v1 (i:Int)):=by
 induction rest with
 |nil =>intro i v1 a b;have hb:=aP a;unfold eO;exact VZ (V3 (show rL (jI v0 v1 (i:Int)) (.exit 0) (pN v1)from RP [Wu (v0.length:Int),.b false] (ALn v0 etS<|AC hb<|AN)))
 |cons hd rest f =>
  intro i v1 a b;have hb:=aI a;have g:=aJ a b;have c:=az a;have d:=aK a;unfold eO;apply V4<;>intro e
  ·exact VZ (V3 (show rL (jI v0 v1 (i:Int)) .ret (oF (-1:Int))from RP [Wu (v0.length:Int),.b true,.row (etS hd),.no,.b true] (ALn v0 etS<|AC hb<|AR etS d<|AC e<|AN)))
  ·exact(f (i+1) (IntKind.wrap .i64 (v1-(hd.size:Int))) c b).mono fun y h=>by have r:rL (jI v0 v1 (i:Int)) .normal (jI v0 (IntKind.wrap .i64 (v1-(hd.size:Int))) (inc (i:Int))):=RP [Wu (v0.length:Int),.b true,.row (etS hd),.no,.b false] (ALn v0 etS<|AC hb<|AR etS d<|AC e<|AN);rw[g]at r;cases y<;>exact V2 r h
noncomputable def kf (c:List Zz)(d:Int):Option (Int):=
  cond (decide ((IntKind.wrap .i64 (d-(c.length:Int)))<(0:Int)))
   (some ((-1:Int)))
   (if c.length≤9223372036854775807 then(eO c 0 (IntKind.wrap .i64 (d-(c.length:Int)))).bind fun y=>match y with
    | .ret a=>(some (a))
    | .x0 b=>(some (b))else none)
theorem Jb (x0:List Zz)(d:Int):Ans (kf x0 d) (fun r=>Does E 126 [.one (Wx 1 (x0.map etS)),Wr d] [Wo r]):=by
 unfold kf;apply V4<;>intro e
 ·exact VZ (DP Tryz.f126 [Wu (x0.length:Int),.no,.b true] (ALn x0 etS<|AC e<|AN))
 ·apply V6;intro f;apply V5;intro y c;replace c:=GL x0 x0 0 (IntKind.wrap .i64 (d-(x0.length:Int))) rfl f y c;cases y with
  |ret a =>have g:=c;exact VZ (DP Tryz.f126 [Wu (x0.length:Int),.no,.b false,.lp .ret (oF a)] (ALn x0 etS<|AC e<|AL g<|AN))
  |x0 b =>have g:=c;exact VZ (DP Tryz.f126 [Wu (x0.length:Int),.no,.b false,.lp (.exit 0) (pN b)] (ALn x0 etS<|AC e<|AL g<|AN))
noncomputable def eE (x:List Zz)(n:Int):Int:=(kf x n).getD (-1)
theorem yH:∀(rest:List Zz)(i:Nat)(n:Int),(∀y∈rest,Wf.wf y)→Tot (eO rest i n)
 |[],i,n,_=>Tot.some _
 |x::rest,i,n,h=>by
  have c:=h x (by simp);have a:=fun i n=>yH rest i n fun y b=>h y (by simp[b])
  unfold eO;repeat' (first|exact Tot.some _|exact a _ _|apply Tot.cond|refine Tot.ite (by assumption) ?_)
theorem wA (x:List Zz)(n:Int)(h:Wf.wf x):kf x n=some (eE x n):=by refine Tot.getD ?_ _;unfold kf;refine Tot.cond (Tot.some _) ?_;refine Tot.ite h.1 (Tot.bind (yH x 0 _ h.2) fun y a=>?_);cases y<;>exact Tot.some _
theorem zR (a:List Zz)(b:Int)(h:Wf.wf a):Does E 126 [.one (Wx 1 (a.map etS)),Wr b] [Wo (eE a b)]:=by exact Jb a b _ (wA a b h)
theorem wi:∀(rest:List Zz)(i:Nat)(n:Int),(∀y∈rest,Wf.wf y)→0≤n→n≤1048576→∀y,eO rest i n=some y →
  (∃m,y = .x0 m∧0≤m∧m≤n∧∀z∈rest,ab.sm z)∨∃m,y = .ret m∧m<0
 |[],i,n,_,a,f,y,e=>by cases e;exact .inl ⟨n,rfl,a,XA _,fun z hz=>by cases hz⟩
 |x::rest,i,n,h,a,f,y,e=>by
  have d:=h x (by simp);unfold eO at e;try rw[Wz d]at e
  by_cases q:IntKind.wrap .i64 (n-(x.size:Int))<0
  ·rw[WJ q,WK]at e;cases e;exact .inr ⟨_,rfl,by omega⟩
  ·rw[WH q,WO]at e;try rw[Wz d]at e
   obtain⟨b,c⟩:=oo a f d (by omega);rcases wi rest _ _ (fun y j=>h y (by simp[j])) (by omega) (by omega) y e with⟨m,g1,k,g3,g4⟩|g
   ·refine .inl ⟨m,g1,k,by omega,fun z hz=>?_⟩;rcases WZ.1 hz with rfl|hz
    ·exact ip c
    ·exact g4 z hz
   ·exact .inr g
theorem GS (x:List Zz)(n:Int)(a:Wf.wf x)(d:0≤n)(f:n≤1048576)(h:0≤eE x n):eE x n≤n∧ab.sm x:=by
 have e:=wA x n a;generalize eE x n=r at *;unfold kf at e;obtain⟨b,e⟩:=gL e h;obtain⟨l,i⟩:=oo (n:=n) (k:=x.length) d f a.1 b;rw[Wz a.1,WA]at e;obtain⟨y,j,c⟩:=e;rcases wi x 0 _ a.2 b (by omega) y j with⟨m,rfl,o,g3,g4⟩|⟨m,rfl,g⟩
 ·cases c;exact⟨by omega,ip i,g4⟩
 ·cases c;omega
noncomputable def nS (a:GTask)(b:Int):Option (Int):=cond (decide ((IntKind.wrap .i64 (b-(a.f0.size:Int)))<(0:Int))) (some ((-1:Int))) (cond (decide ((IntKind.wrap .i64 ((IntKind.wrap .i64 (b-(a.f0.size:Int)))-(a.f1.size:Int)))<(0:Int))) (some ((-1:Int))) (if Wf.wf a.f4 then cond (decide ((eE a.f4 (IntKind.wrap .i64 ((IntKind.wrap .i64 (b-(a.f0.size:Int)))-(a.f1.size:Int))))<(0:Int))) (some ((-1:Int))) (some (eE a.f4 (IntKind.wrap .i64 ((IntKind.wrap .i64 (b-(a.f0.size:Int)))-(a.f1.size:Int)))))else none))
abbrev Vo (b:Int)(a:GTask):=IntKind.wrap .i64 ((IntKind.wrap .i64 (b-(a.f0.size:Int)))-(a.f1.size:Int))
theorem Qb (a:GTask)(b:Int):Ans (nS a b) (fun r=>Does E 108 [.agg (Wj .far a),Wr b] [Wo r]):=by
 unfold nS;apply V4<;>intro c
 ·exact VZ (DP Tryz.f108 [.no,.b true] (AC c<|AN))
 ·apply V4<;>intro d
  ·exact VZ (DP Tryz.f108 [.no,.b false,.no,.b true] (AC c<|AC d<|AN))
  ·apply V6;intro e;apply V4<;>intro f
   ·exact VZ (DP Tryz.f108 [.no,.b false,.no,.b false,.ret [Wo (eE a.f4 (Vo b a))],.b true] (AC c<|AC d<|AD (zR a.f4 (Vo b a) e)<|AC f<|AN))
   ·exact VZ (DP Tryz.f108 [.no,.b false,.no,.b false,.ret [Wo (eE a.f4 (Vo b a))],.b false] (AC c<|AC d<|AD (zR a.f4 (Vo b a) e)<|AC f<|AN))
noncomputable def fC (x:GTask)(n:Int):Int:=(nS x n).getD (-1)
theorem Cr (x:GTask)(n:Int)(h:Wf.wf x):nS x n=some (fC x n):=by obtain⟨w0,a,b⟩:=h;refine Tot.getD ?_ _;unfold nS;repeat' (first|exact Tot.some _|apply Tot.cond|refine Tot.ite (by assumption) ?_)
theorem EB (a:GTask)(b:Int)(h:Wf.wf a):Does E 108 [.agg (Wj .far a),Wr b] [Wo (fC a b)]:=by exact Qb a b _ (Cr a b h)
theorem NL (x:GTask)(n:Int)(b:Wf.wf x)(g:0≤n)(o:n≤1048576)(h:0≤fC x n):fC x n≤n∧ab.sm x:=by
 have e:=Cr x n b;obtain⟨w0,i,a⟩:=b;generalize fC x n=r at *;unfold nS at e;obtain⟨c,e⟩:=gL e h;obtain⟨p,j⟩:=oo (n:=n) (k:=x.f0.size) g (by omega) w0 c;generalize IntKind.wrap .i64 (n-(x.f0.size:Int))=d at *;obtain⟨a2,e⟩:=gL e h;obtain⟨q,l⟩:=oo (n:=d) (k:=x.f1.size) c (by omega) i a2;generalize IntKind.wrap .i64 (d-(x.f1.size:Int))=f at *;try rw[Wz a]at e
 obtain⟨a3,e⟩:=gL e h;try rw[Wz a]at e
 obtain⟨s,m⟩:=GS x.f4 f a a2 (by omega) a3;generalize eE x.f4 f=t at *;cases e;exact⟨by omega,⟨ip j,ip l,m⟩⟩
inductive BK where|ret (v4:Int)|x0 (v1:Int)
def li (q0:Kd)(v0:List GTask)(v1 v5:Int):US:=stL 27 [(0,.one (Wx 5 (v0.map (Wj q0)))),(1,Wr v1),(5,Wr v5)]
def qU (q0:Kd)(a:Int):US:=stL 27 [(4,Wr a)]
def rM (q0:Kd)(a:Int):US:=stL 27 [(1,Wr a)]
abbrev u6:US→Exit→US→Prop:=Round E 90 (aq Tryz.f90 0)
def Lk {q0:Kd}(v0:List GTask)(v1 v5:Int):BK→Prop| .ret a=>Loops E 90 (aq Tryz.f90 0) (li q0 v0 v1 v5) .ret (qU q0 a)| .x0 b=>Loops E 90 (aq Tryz.f90 0) (li q0 v0 v1 v5) (.exit 0) (rM q0 b)
noncomputable def gC  : List GTask→Nat→Int→Option BK|[],i,v1=>some (.x0 v1)|hd::rest,i,v1=>if Wf.wf hd then cond (decide ((fC hd v1)<(0:Int))) (some (.ret (-1:Int))) (gC rest (i+1) (fC hd v1))else none
theorem Lj {q0:Kd}(v0:List GTask)(rest:List GTask):∀(i:Nat)(v1:Int),(v0).drop i=rest→v0.length≤9223372036854775807→Ans (gC rest i v1) (Lk (q0:=q0) v0 v1 (i:Int)):=by
 induction rest with
 |nil =>intro i v1 a b;have hb:=aP a;unfold gC;exact VZ (V3 (show u6 (li q0 v0 v1 (i:Int)) (.exit 0) (rM q0 v1)from RP [Wu (v0.length:Int),.b false] (ALn v0 (Wj q0)<|AC hb<|AN)))
 |cons hd rest g =>
  intro i v1 a b;have hb:=aI a;have h:=aJ a b;have c:=az a;have d:=aK a;unfold gC;apply V6;intro e;apply V4<;>intro f
  ·exact VZ (V3 (show u6 (li q0 v0 v1 (i:Int)) .ret (qU q0 (-1:Int))from RP [Wu (v0.length:Int),.b true,.row ((Wj q0) hd),.ret [Wo (fC hd v1)],.b true] (ALn v0 (Wj q0)<|AC hb<|AR (Wj q0) d<|AD (EB hd v1 e)<|AC f<|AN)))
  ·exact(g (i+1) (fC hd v1) c b).mono fun y j=>by have r:u6 (li q0 v0 v1 (i:Int)) .normal (li q0 v0 (fC hd v1) (inc (i:Int))):=RP [Wu (v0.length:Int),.b true,.row ((Wj q0) hd),.ret [Wo (fC hd v1)],.b false] (ALn v0 (Wj q0)<|AC hb<|AR (Wj q0) d<|AD (EB hd v1 e)<|AC f<|AN);rw[h]at r;cases y<;>exact V2 r j
noncomputable def mu (c:List GTask)(d:Int):Option (Int):=
  cond (decide ((IntKind.wrap .i64 (d-(c.length:Int)))<(0:Int)))
   (some ((-1:Int)))
   (if c.length≤9223372036854775807 then(gC c 0 (IntKind.wrap .i64 (d-(c.length:Int)))).bind fun y=>match y with
    | .ret a=>(some (a))
    | .x0 b=>(some (b))else none)
theorem NC {q0:Kd}(x0:List GTask)(d:Int):Ans (mu x0 d) (fun r=>Does E 90 [.one (Wx 5 (x0.map (Wj q0))),Wr d] [Wo r]):=by
 unfold mu;apply V4<;>intro e
 ·exact VZ (DP Tryz.f90 [Wu (x0.length:Int),.no,.b true] (ALn x0 (Wj q0)<|AC e<|AN))
 ·apply V6;intro f;apply V5;intro y c;replace c:=Lj (q0:=q0) x0 x0 0 (IntKind.wrap .i64 (d-(x0.length:Int))) rfl f y c;cases y with
  |ret a =>have g:=c;exact VZ (DP Tryz.f90 [Wu (x0.length:Int),.no,.b false,.lp .ret (qU q0 a)] (ALn x0 (Wj q0)<|AC e<|AL g<|AN))
  |x0 b =>have g:=c;exact VZ (DP Tryz.f90 [Wu (x0.length:Int),.no,.b false,.lp (.exit 0) (rM q0 b)] (ALn x0 (Wj q0)<|AC e<|AL g<|AN))
noncomputable def eF (x:List GTask)(n:Int):Int:=(mu x n).getD (-1)
theorem Co:∀(rest:List GTask)(i:Nat)(n:Int),(∀y∈rest,Wf.wf y)→Tot (gC rest i n)
 |[],i,n,_=>Tot.some _
 |x::rest,i,n,h=>by
  have c:=h x (by simp);have a:=fun i n=>Co rest i n fun y b=>h y (by simp[b])
  unfold gC;repeat' (first|exact Tot.some _|exact a _ _|apply Tot.cond|refine Tot.ite (by assumption) ?_)
theorem Ax (x:List GTask)(n:Int)(h:Wf.wf x):mu x n=some (eF x n):=by refine Tot.getD ?_ _;unfold mu;refine Tot.cond (Tot.some _) ?_;refine Tot.ite h.1 (Tot.bind (Co x 0 _ h.2) fun y a=>?_);cases y<;>exact Tot.some _
theorem CP {q0:Kd}(a:List GTask)(b:Int)(h:Wf.wf a):Does E 90 [.one (Wx 5 (a.map (Wj q0))),Wr b] [Wo (eF a b)]:=by exact NC a b _ (Ax a b h)
theorem Ai:∀(rest:List GTask)(i:Nat)(n:Int),(∀y∈rest,Wf.wf y)→0≤n→n≤1048576→∀y,gC rest i n=some y →
  (∃m,y = .x0 m∧0≤m∧m≤n∧∀z∈rest,ab.sm z)∨∃m,y = .ret m∧m<0
 |[],i,n,_,a,f,y,e=>by cases e;exact .inl ⟨n,rfl,a,XA _,fun z hz=>by cases hz⟩
 |x::rest,i,n,h,a,f,y,e=>by
  have d:=h x (by simp);unfold gC at e;try rw[Wz d]at e
  by_cases q:fC x n<0
  ·rw[WJ q,WK]at e;cases e;exact .inr ⟨_,rfl,by omega⟩
  ·rw[WH q,WO]at e;try rw[Wz d]at e
   obtain⟨b,c⟩:=NL x n d a f (by omega);rcases Ai rest _ _ (fun y j=>h y (by simp[j])) (by omega) (by omega) y e with⟨m,g1,k,g3,g4⟩|g
   ·refine .inl ⟨m,g1,k,by omega,fun z hz=>?_⟩;rcases WZ.1 hz with rfl|hz
    ·exact c
    ·exact g4 z hz
   ·exact .inr g
theorem Ls (x:List GTask)(n:Int)(a:Wf.wf x)(d:0≤n)(f:n≤1048576)(h:0≤eF x n):eF x n≤n∧ab.sm x:=by
 have e:=Ax x n a;generalize eF x n=r at *;unfold mu at e;obtain⟨b,e⟩:=gL e h;obtain⟨l,i⟩:=oo (n:=n) (k:=x.length) d f a.1 b;rw[Wz a.1,WA]at e;obtain⟨y,j,c⟩:=e;rcases Ai x 0 _ a.2 b (by omega) y j with⟨m,rfl,o,g3,g4⟩|⟨m,rfl,g⟩
 ·cases c;exact⟨by omega,ip i,g4⟩
 ·cases c;omega
noncomputable def qd (a:LDag)(b:Int):Option (Int):=cond (decide ((IntKind.wrap .i64 (b-(a.f0.size:Int)))<(0:Int))) (some ((-1:Int))) (cond (decide ((IntKind.wrap .i64 ((IntKind.wrap .i64 (b-(a.f0.size:Int)))-(a.f1.size:Int)))<(0:Int))) (some ((-1:Int))) (if Wf.wf a.f5 then cond (decide ((eF a.f5 (IntKind.wrap .i64 ((IntKind.wrap .i64 (b-(a.f0.size:Int)))-(a.f1.size:Int))))<(0:Int))) (some ((-1:Int))) (some (eF a.f5 (IntKind.wrap .i64 ((IntKind.wrap .i64 (b-(a.f0.size:Int)))-(a.f1.size:Int)))))else none))
abbrev Vl (b:Int)(a:LDag):=IntKind.wrap .i64 ((IntKind.wrap .i64 (b-(a.f0.size:Int)))-(a.f1.size:Int))
theorem RM {q0:Kd}(a:LDag)(b:Int):Ans (qd a b) (fun r=>Does E 62 [.agg (Wl .far q0 a),Wr b] [Wo r]):=by
 unfold qd;apply V4<;>intro c
 ·exact VZ (DP Tryz.f62 [.no,.b true] (AC c<|AN))
 ·apply V4<;>intro d
  ·exact VZ (DP Tryz.f62 [.no,.b false,.no,.b true] (AC c<|AC d<|AN))
  ·apply V6;intro e;apply V4<;>intro f
   ·exact VZ (DP Tryz.f62 [.no,.b false,.no,.b false,.ret [Wo (eF a.f5 (Vl b a))],.b true] (AC c<|AC d<|AV (ψ:=fun k=>E.C k 90 [.one (Wx 5 (a.f5.map (Wj q0))),Wr (Vl b a)]=some [Wo (eF a.f5 (Vl b a))]) (CP a.f5 (Vl b a) e)<|AC f<|AN))
   ·exact VZ (DP Tryz.f62 [.no,.b false,.no,.b false,.ret [Wo (eF a.f5 (Vl b a))],.b false] (AC c<|AC d<|AV (ψ:=fun k=>E.C k 90 [.one (Wx 5 (a.f5.map (Wj q0))),Wr (Vl b a)]=some [Wo (eF a.f5 (Vl b a))]) (CP a.f5 (Vl b a) e)<|AC f<|AN))
noncomputable def gX (x:LDag)(n:Int):Int:=(qd x n).getD (-1)
theorem DB (x:LDag)(n:Int)(h:Wf.wf x):qd x n=some (gX x n):=by obtain⟨w0,a,b⟩:=h;refine Tot.getD ?_ _;unfold qd;repeat' (first|exact Tot.some _|apply Tot.cond|refine Tot.ite (by assumption) ?_)
theorem HR {q0:Kd}(a:LDag)(b:Int)(h:Wf.wf a):Does E 62 [.agg (Wl .far q0 a),Wr b] [Wo (gX a b)]:=by exact RM a b _ (DB a b h)
theorem Qg (x:LDag)(n:Int)(b:Wf.wf x)(g:0≤n)(o:n≤1048576)(h:0≤gX x n):gX x n≤n∧ab.sm x:=by
 have e:=DB x n b;obtain⟨w0,i,a⟩:=b;generalize gX x n=r at *;unfold qd at e;obtain⟨c,e⟩:=gL e h;obtain⟨p,j⟩:=oo (n:=n) (k:=x.f0.size) g (by omega) w0 c;generalize IntKind.wrap .i64 (n-(x.f0.size:Int))=d at *;obtain⟨a2,e⟩:=gL e h;obtain⟨q,l⟩:=oo (n:=d) (k:=x.f1.size) c (by omega) i a2;generalize IntKind.wrap .i64 (d-(x.f1.size:Int))=f at *;try rw[Wz a]at e
 obtain⟨a3,e⟩:=gL e h;try rw[Wz a]at e
 obtain⟨s,m⟩:=Ls x.f5 f a a2 (by omega) a3;generalize eF x.f5 f=t at *;cases e;exact⟨by omega,⟨ip j,ip l,m⟩⟩
noncomputable def nQ (a:LPlan)(b:Int):Option (Int):=if Wf.wf a.f0 then cond (decide ((gX a.f0 b)<(0:Int))) (some ((-1:Int))) (some (gX a.f0 b))else none
theorem P9 {q0:Kd}(a:LPlan)(b:Int):Ans (nQ a b) (fun r=>Does E 34 [.agg (Wm .far q0 a),Wr b] [Wo r]):=by
 unfold nQ;apply V6;intro c;apply V4<;>intro d
 ·exact VZ (DP Tryz.f34 [.ret [Wo (gX a.f0 b)],.b true] (AV (ψ:=fun k=>E.C k 62 [.agg (Wl .far q0 a.f0),Wr b]=some [Wo (gX a.f0 b)]) (HR a.f0 b c)<|AC d<|AN))
 ·exact VZ (DP Tryz.f34 [.ret [Wo (gX a.f0 b)],.b false] (AV (ψ:=fun k=>E.C k 62 [.agg (Wl .far q0 a.f0),Wr b]=some [Wo (gX a.f0 b)]) (HR a.f0 b c)<|AC d<|AN))
noncomputable def eb (x:LPlan)(n:Int):Int:=(nQ x n).getD (-1)
theorem Cp (x:LPlan)(n:Int)(h:Wf.wf x):nQ x n=some (eb x n):=by have w0:Wf.wf x.f0:=h;refine Tot.getD ?_ _;unfold nQ;repeat' (first|exact Tot.some _|apply Tot.cond|refine Tot.ite (by assumption) ?_)
theorem Ez {q0:Kd}(a:LPlan)(b:Int)(h:Wf.wf a):Does E 34 [.agg (Wm .far q0 a),Wr b] [Wo (eb a b)]:=by exact P9 a b _ (Cp a b h)
theorem NJ (x:LPlan)(n:Int)(a:Wf.wf x)(b:0≤n)(f:n≤1048576)(h:0≤eb x n):eb x n≤n∧ab.sm x:=by
 have e:=Cp x n a;have w0:Wf.wf x.f0:=a;generalize eb x n=r at *;unfold nQ at e;try rw[Wz w0]at e
 obtain⟨c,e⟩:=gL e h;try rw[Wz w0]at e
 obtain⟨g,d⟩:=Qg x.f0 n w0 b (by omega) c;generalize gX x.f0 n=i at *;cases e;exact⟨by omega,d⟩
inductive BJ where|ret (v4:Int)|x0 (v1:Int)
def lg (q0:Kd)(v0:List LPlan)(v1 v5:Int):US:=stL 27 [(0,.one (Wx 9 (v0.map (Wm q0 q0)))),(1,Wr v1),(5,Wr v5)]
def qS (q0:Kd)(a:Int):US:=stL 27 [(4,Wr a)]
def rJ (q0:Kd)(a:Int):US:=stL 27 [(1,Wr a)]
abbrev u5:US→Exit→US→Prop:=Round E 12 (aq Tryz.f12 0)
def Lh {q0:Kd}(v0:List LPlan)(v1 v5:Int):BJ→Prop| .ret a=>Loops E 12 (aq Tryz.f12 0) (lg q0 v0 v1 v5) .ret (qS q0 a)| .x0 b=>Loops E 12 (aq Tryz.f12 0) (lg q0 v0 v1 v5) (.exit 0) (rJ q0 b)
noncomputable def gB  : List LPlan→Nat→Int→Option BJ|[],i,v1=>some (.x0 v1)|hd::rest,i,v1=>if Wf.wf hd then cond (decide ((eb hd v1)<(0:Int))) (some (.ret (-1:Int))) (gB rest (i+1) (eb hd v1))else none
theorem Lg {q0:Kd}(v0:List LPlan)(rest:List LPlan):∀(i:Nat)(v1:Int),(v0).drop i=rest→v0.length≤9223372036854775807→Ans (gB rest i v1) (Lh (q0:=q0) v0 v1 (i:Int)):=by
 induction rest with
 |nil =>intro i v1 a b;have hb:=aP a;unfold gB;exact VZ (V3 (show u5 (lg q0 v0 v1 (i:Int)) (.exit 0) (rJ q0 v1)from RP [Wu (v0.length:Int),.b false] (ALn v0 (Wm q0 q0)<|AC hb<|AN)))
 |cons hd rest g =>
  intro i v1 a b;have hb:=aI a;have h:=aJ a b;have c:=az a;have d:=aK a;unfold gB;apply V6;intro e;apply V4<;>intro f
  ·exact VZ (V3 (show u5 (lg q0 v0 v1 (i:Int)) .ret (qS q0 (-1:Int))from RP [Wu (v0.length:Int),.b true,.row ((Wm q0 q0) hd),.ret [Wo (eb hd v1)],.b true] (ALn v0 (Wm q0 q0)<|AC hb<|AR (Wm q0 q0) d<|AV (ψ:=fun k=>E.C k 34 [.agg (Wm .far q0 hd),Wr v1]=some [Wo (eb hd v1)]) (Ez hd v1 e)<|AC f<|AN)))
  ·exact(g (i+1) (eb hd v1) c b).mono fun y j=>by have r:u5 (lg q0 v0 v1 (i:Int)) .normal (lg q0 v0 (eb hd v1) (inc (i:Int))):=RP [Wu (v0.length:Int),.b true,.row ((Wm q0 q0) hd),.ret [Wo (eb hd v1)],.b false] (ALn v0 (Wm q0 q0)<|AC hb<|AR (Wm q0 q0) d<|AV (ψ:=fun k=>E.C k 34 [.agg (Wm .far q0 hd),Wr v1]=some [Wo (eb hd v1)]) (Ez hd v1 e)<|AC f<|AN);rw[h]at r;cases y<;>exact V2 r j
noncomputable def ms (c:List LPlan)(d:Int):Option (Int):=
  cond (decide ((IntKind.wrap .i64 (d-(c.length:Int)))<(0:Int)))
   (some ((-1:Int)))
   (if c.length≤9223372036854775807 then(gB c 0 (IntKind.wrap .i64 (d-(c.length:Int)))).bind fun y=>match y with
    | .ret a=>(some (a))
    | .x0 b=>(some (b))else none)
theorem Nz {q0:Kd}(x0:List LPlan)(d:Int):Ans (ms x0 d) (fun r=>Does E 12 [.one (Wx 9 (x0.map (Wm q0 q0))),Wr d] [Wo r]):=by
 unfold ms;apply V4<;>intro e
 ·exact VZ (DP Tryz.f12 [Wu (x0.length:Int),.no,.b true] (ALn x0 (Wm q0 q0)<|AC e<|AN))
 ·apply V6;intro f;apply V5;intro y c;replace c:=Lg (q0:=q0) x0 x0 0 (IntKind.wrap .i64 (d-(x0.length:Int))) rfl f y c;cases y with
  |ret a =>have g:=c;exact VZ (DP Tryz.f12 [Wu (x0.length:Int),.no,.b false,.lp .ret (qS q0 a)] (ALn x0 (Wm q0 q0)<|AC e<|AL g<|AN))
  |x0 b =>have g:=c;exact VZ (DP Tryz.f12 [Wu (x0.length:Int),.no,.b false,.lp (.exit 0) (rJ q0 b)] (ALn x0 (Wm q0 q0)<|AC e<|AL g<|AN))
noncomputable def bO (x:List LPlan)(n:Int):Int:=(ms x n).getD (-1)
theorem Cn:∀(rest:List LPlan)(i:Nat)(n:Int),(∀y∈rest,Wf.wf y)→Tot (gB rest i n)
 |[],i,n,_=>Tot.some _
 |x::rest,i,n,h=>by
  have c:=h x (by simp);have a:=fun i n=>Cn rest i n fun y b=>h y (by simp[b])
  unfold gB;repeat' (first|exact Tot.some _|exact a _ _|apply Tot.cond|refine Tot.ite (by assumption) ?_)
theorem Aw (x:List LPlan)(n:Int)(h:Wf.wf x):ms x n=some (bO x n):=by refine Tot.getD ?_ _;unfold ms;refine Tot.cond (Tot.some _) ?_;refine Tot.ite h.1 (Tot.bind (Cn x 0 _ h.2) fun y a=>?_);cases y<;>exact Tot.some _
theorem wG {q0:Kd}(a:List LPlan)(b:Int)(h:Wf.wf a):Does E 12 [.one (Wx 9 (a.map (Wm q0 q0))),Wr b] [Wo (bO a b)]:=by exact Nz a b _ (Aw a b h)
theorem Ah:∀(rest:List LPlan)(i:Nat)(n:Int),(∀y∈rest,Wf.wf y)→0≤n→n≤1048576→∀y,gB rest i n=some y →
  (∃m,y = .x0 m∧0≤m∧m≤n∧∀z∈rest,ab.sm z)∨∃m,y = .ret m∧m<0
 |[],i,n,_,a,f,y,e=>by cases e;exact .inl ⟨n,rfl,a,XA _,fun z hz=>by cases hz⟩
 |x::rest,i,n,h,a,f,y,e=>by
  have d:=h x (by simp);unfold gB at e;try rw[Wz d]at e
  by_cases q:eb x n<0
  ·rw[WJ q,WK]at e;cases e;exact .inr ⟨_,rfl,by omega⟩
  ·rw[WH q,WO]at e;try rw[Wz d]at e
   obtain⟨b,c⟩:=NJ x n d a f (by omega);rcases Ah rest _ _ (fun y j=>h y (by simp[j])) (by omega) (by omega) y e with⟨m,g1,k,g3,g4⟩|g
   ·refine .inl ⟨m,g1,k,by omega,fun z hz=>?_⟩;rcases WZ.1 hz with rfl|hz
    ·exact c
    ·exact g4 z hz
   ·exact .inr g
theorem Lr (x:List LPlan)(n:Int)(a:Wf.wf x)(d:0≤n)(f:n≤1048576)(h:0≤bO x n):bO x n≤n∧ab.sm x:=by
 have e:=Aw x n a;generalize bO x n=r at *;unfold ms at e;obtain⟨b,e⟩:=gL e h;obtain⟨l,i⟩:=oo (n:=n) (k:=x.length) d f a.1 b;rw[Wz a.1,WA]at e;obtain⟨y,j,c⟩:=e;rcases Ah x 0 _ a.2 b (by omega) y j with⟨m,rfl,o,g3,g4⟩|⟨m,rfl,g⟩
 ·cases c;exact⟨by omega,ip i,g4⟩
 ·cases c;omega
noncomputable def lh (a:List GState)(b:Int):Option (Int):=cond (decide ((IntKind.wrap .i64 (b-(a.length:Int)))<(0:Int))) (some ((-1:Int))) (some (IntKind.wrap .i64 (b-(a.length:Int))))
theorem Li (a:List GState)(b:Int):Ans (lh a b) (fun r=>Does E 63 [.one (Wx 4 (a.map Wi)),Wr b] [Wo r]):=by
 unfold lh;apply V4<;>intro c
 ·exact VZ (DP Tryz.f63 [Wu (a.length:Int),.no,.b true] (ALn a Wi<|AC c<|AN))
 ·exact VZ (DP Tryz.f63 [Wu (a.length:Int),.no,.b false] (ALn a Wi<|AC c<|AN))
noncomputable def fq (x:List GState)(n:Int):Int:=(lh x n).getD (-1)
theorem yI (x:List GState)(n:Int)(h:Wf.wf x):lh x n=some (fq x n):=by refine Tot.getD ?_ _;unfold lh;refine Tot.cond (Tot.some _) ?_;exact Tot.some _
theorem AP (a:List GState)(b:Int)(h:Wf.wf a):Does E 63 [.one (Wx 4 (a.map Wi)),Wr b] [Wo (fq a b)]:=by exact Li a b _ (yI a b h)
theorem Jg (x:List GState)(n:Int)(a:Wf.wf x)(b:0≤n)(c:n≤1048576)(h:0≤fq x n):fq x n≤n∧ab.sm x:=by have e:=yI x n a;generalize fq x n=r at *;unfold lh at e;obtain⟨d,e⟩:=gL e h;obtain⟨f,g⟩:=oo (n:=n) (k:=x.length) b c a.1 d;cases e;exact⟨f,ip g,fun y _=>trivial⟩
noncomputable def qe (a:LRun)(b:Int):Option (Int):=cond (decide ((IntKind.wrap .i64 (b-(a.f0.size:Int)))<(0:Int))) (some ((-1:Int))) (if Wf.wf a.f3 then cond (decide ((fq a.f3 (IntKind.wrap .i64 (b-(a.f0.size:Int))))<(0:Int))) (some ((-1:Int))) (some (fq a.f3 (IntKind.wrap .i64 (b-(a.f0.size:Int)))))else none)
abbrev Vw (b:Int)(a:LRun):=IntKind.wrap .i64 (b-(a.f0.size:Int))
theorem RN (a:LRun)(b:Int):Ans (qe a b) (fun r=>Does E 35 [.agg (Wn .far a),Wr b] [Wo r]):=by
 unfold qe;apply V4<;>intro c
 ·exact VZ (DP Tryz.f35 [.no,.b true] (AC c<|AN))
 ·apply V6;intro d;apply V4<;>intro e
  ·exact VZ (DP Tryz.f35 [.no,.b false,.ret [Wo (fq a.f3 (Vw b a))],.b true] (AC c<|AD (AP a.f3 (Vw b a) d)<|AC e<|AN))
  ·exact VZ (DP Tryz.f35 [.no,.b false,.ret [Wo (fq a.f3 (Vw b a))],.b false] (AC c<|AD (AP a.f3 (Vw b a) d)<|AC e<|AN))
noncomputable def gY (x:LRun)(n:Int):Int:=(qe x n).getD (-1)
theorem DC (x:LRun)(n:Int)(h:Wf.wf x):qe x n=some (gY x n):=by obtain⟨w0,a,b⟩:=h;refine Tot.getD ?_ _;unfold qe;repeat' (first|exact Tot.some _|apply Tot.cond|refine Tot.ite (by assumption) ?_)
theorem HS (a:LRun)(b:Int)(h:Wf.wf a):Does E 35 [.agg (Wn .far a),Wr b] [Wo (gY a b)]:=by exact RN a b _ (DC a b h)
theorem Qh (x:LRun)(n:Int)(b:Wf.wf x)(f:0≤n)(j:n≤1048576)(h:0≤gY x n):gY x n≤n∧ab.sm x:=by
 have e:=DC x n b;obtain⟨w0,l,a⟩:=b;generalize gY x n=r at *;unfold qe at e;obtain⟨c,e⟩:=gL e h;obtain⟨m,g⟩:=oo (n:=n) (k:=x.f0.size) f (by omega) w0 c;generalize IntKind.wrap .i64 (n-(x.f0.size:Int))=d at *;try rw[Wz a]at e
 obtain⟨a2,e⟩:=gL e h;try rw[Wz a]at e
 obtain⟨o,i⟩:=Jg x.f3 d a c (by omega) a2;generalize fq x.f3 d=p at *;cases e;exact⟨by omega,⟨ip g,trivial,i⟩⟩
inductive Da where|ret (v4:Int)|x0 (v1:Int)
def mt (q0:Kd)(v0:List LRun)(v1 v5:Int):US:=stL 27 [(0,.one (Wx 5 (v0.map (Wn q0)))),(1,Wr v1),(5,Wr v5)]
def rK (q0:Kd)(a:Int):US:=stL 27 [(4,Wr a)]
def tr (q0:Kd)(a:Int):US:=stL 27 [(1,Wr a)]
abbrev xa:US→Exit→US→Prop:=Round E 13 (aq Tryz.f13 0)
def NB {q0:Kd}(v0:List LRun)(v1 v5:Int):Da→Prop| .ret a=>Loops E 13 (aq Tryz.f13 0) (mt q0 v0 v1 v5) .ret (rK q0 a)| .x0 b=>Loops E 13 (aq Tryz.f13 0) (mt q0 v0 v1 v5) (.exit 0) (tr q0 b)
noncomputable def iu  : List LRun→Nat→Int→Option Da|[],i,v1=>some (.x0 v1)|hd::rest,i,v1=>if Wf.wf hd then cond (decide ((gY hd v1)<(0:Int))) (some (.ret (-1:Int))) (iu rest (i+1) (gY hd v1))else none
theorem NA {q0:Kd}(v0:List LRun)(rest:List LRun):∀(i:Nat)(v1:Int),(v0).drop i=rest→v0.length≤9223372036854775807→Ans (iu rest i v1) (NB (q0:=q0) v0 v1 (i:Int)):=by
 induction rest with
 |nil =>intro i v1 a b;have hb:=aP a;unfold iu;exact VZ (V3 (show xa (mt q0 v0 v1 (i:Int)) (.exit 0) (tr q0 v1)from RP [Wu (v0.length:Int),.b false] (ALn v0 (Wn q0)<|AC hb<|AN)))
 |cons hd rest g =>
  intro i v1 a b;have hb:=aI a;have h:=aJ a b;have c:=az a;have d:=aK a;unfold iu;apply V6;intro e;apply V4<;>intro f
  ·exact VZ (V3 (show xa (mt q0 v0 v1 (i:Int)) .ret (rK q0 (-1:Int))from RP [Wu (v0.length:Int),.b true,.row ((Wn q0) hd),.ret [Wo (gY hd v1)],.b true] (ALn v0 (Wn q0)<|AC hb<|AR (Wn q0) d<|AD (HS hd v1 e)<|AC f<|AN)))
  ·exact(g (i+1) (gY hd v1) c b).mono fun y j=>by have r:xa (mt q0 v0 v1 (i:Int)) .normal (mt q0 v0 (gY hd v1) (inc (i:Int))):=RP [Wu (v0.length:Int),.b true,.row ((Wn q0) hd),.ret [Wo (gY hd v1)],.b false] (ALn v0 (Wn q0)<|AC hb<|AR (Wn q0) d<|AD (HS hd v1 e)<|AC f<|AN);rw[h]at r;cases y<;>exact V2 r j
noncomputable def nR (c:List LRun)(d:Int):Option (Int):=
  cond (decide ((IntKind.wrap .i64 (d-(c.length:Int)))<(0:Int)))
   (some ((-1:Int)))
   (if c.length≤9223372036854775807 then(iu c 0 (IntKind.wrap .i64 (d-(c.length:Int)))).bind fun y=>match y with
    | .ret a=>(some (a))
    | .x0 b=>(some (b))else none)
theorem Qa {q0:Kd}(x0:List LRun)(d:Int):Ans (nR x0 d) (fun r=>Does E 13 [.one (Wx 5 (x0.map (Wn q0))),Wr d] [Wo r]):=by
 unfold nR;apply V4<;>intro e
 ·exact VZ (DP Tryz.f13 [Wu (x0.length:Int),.no,.b true] (ALn x0 (Wn q0)<|AC e<|AN))
 ·apply V6;intro f;apply V5;intro y c;replace c:=NA (q0:=q0) x0 x0 0 (IntKind.wrap .i64 (d-(x0.length:Int))) rfl f y c;cases y with
  |ret a =>have g:=c;exact VZ (DP Tryz.f13 [Wu (x0.length:Int),.no,.b false,.lp .ret (rK q0 a)] (ALn x0 (Wn q0)<|AC e<|AL g<|AN))
  |x0 b =>have g:=c;exact VZ (DP Tryz.f13 [Wu (x0.length:Int),.no,.b false,.lp (.exit 0) (tr q0 b)] (ALn x0 (Wn q0)<|AC e<|AL g<|AN))
noncomputable def fB (x:List LRun)(n:Int):Int:=(nR x n).getD (-1)
theorem DA:∀(rest:List LRun)(i:Nat)(n:Int),(∀y∈rest,Wf.wf y)→Tot (iu rest i n)
 |[],i,n,_=>Tot.some _
 |x::rest,i,n,h=>by
  have c:=h x (by simp);have a:=fun i n=>DA rest i n fun y b=>h y (by simp[b])
  unfold iu;repeat' (first|exact Tot.some _|exact a _ _|apply Tot.cond|refine Tot.ite (by assumption) ?_)
theorem Cq (x:List LRun)(n:Int)(h:Wf.wf x):nR x n=some (fB x n):=by refine Tot.getD ?_ _;unfold nR;refine Tot.cond (Tot.some _) ?_;refine Tot.ite h.1 (Tot.bind (DA x 0 _ h.2) fun y a=>?_);cases y<;>exact Tot.some _
theorem EA {q0:Kd}(a:List LRun)(b:Int)(h:Wf.wf a):Does E 13 [.one (Wx 5 (a.map (Wn q0))),Wr b] [Wo (fB a b)]:=by exact Qa a b _ (Cq a b h)
theorem BR:∀(rest:List LRun)(i:Nat)(n:Int),(∀y∈rest,Wf.wf y)→0≤n→n≤1048576→∀y,iu rest i n=some y →
  (∃m,y = .x0 m∧0≤m∧m≤n∧∀z∈rest,ab.sm z)∨∃m,y = .ret m∧m<0
 |[],i,n,_,a,f,y,e=>by cases e;exact .inl ⟨n,rfl,a,XA _,fun z hz=>by cases hz⟩
 |x::rest,i,n,h,a,f,y,e=>by
  have d:=h x (by simp);unfold iu at e;try rw[Wz d]at e
  by_cases q:gY x n<0
  ·rw[WJ q,WK]at e;cases e;exact .inr ⟨_,rfl,by omega⟩
  ·rw[WH q,WO]at e;try rw[Wz d]at e
   obtain⟨b,c⟩:=Qh x n d a f (by omega);rcases BR rest _ _ (fun y j=>h y (by simp[j])) (by omega) (by omega) y e with⟨m,g1,k,g3,g4⟩|g
   ·refine .inl ⟨m,g1,k,by omega,fun z hz=>?_⟩;rcases WZ.1 hz with rfl|hz
    ·exact c
    ·exact g4 z hz
   ·exact .inr g
theorem NK (x:List LRun)(n:Int)(a:Wf.wf x)(d:0≤n)(f:n≤1048576)(h:0≤fB x n):fB x n≤n∧ab.sm x:=by
 have e:=Cq x n a;generalize fB x n=r at *;unfold nR at e;obtain⟨b,e⟩:=gL e h;obtain⟨l,i⟩:=oo (n:=n) (k:=x.length) d f a.1 b;rw[Wz a.1,WA]at e;obtain⟨y,j,c⟩:=e;rcases BR x 0 _ a.2 b (by omega) y j with⟨m,rfl,o,g3,g4⟩|⟨m,rfl,g⟩
 ·cases c;exact⟨by omega,ip i,g4⟩
 ·cases c;omega
noncomputable def mr (a:LBoard)(b:Int):Option (Int):=if Wf.wf a.f0 then cond (decide ((aM a.f0 b)<(0:Int))) (some ((-1:Int))) (if Wf.wf a.f1 then cond (decide ((bO a.f1 (aM a.f0 b))<(0:Int))) (some ((-1:Int))) (if Wf.wf a.f2 then cond (decide ((fB a.f2 (bO a.f1 (aM a.f0 b)))<(0:Int))) (some ((-1:Int))) (some (fB a.f2 (bO a.f1 (aM a.f0 b))))else none)else none)else none
noncomputable abbrev Vr (a:LBoard)(b:Int):=bO a.f1 (aM a.f0 b)
theorem Ny {q0:Kd}(a:LBoard)(b:Int):Ans (mr a b) (fun r=>Does E 4 [.agg (Wk .far q0 a),Wr b] [Wo r]):=by
 unfold mr;apply V6;intro c;apply V4<;>intro d
 ·exact VZ (DP Tryz.f4 [.ret [Wo (aM a.f0 b)],.b true] (AD (ny a.f0 b c)<|AC d<|AN))
 ·apply V6;intro e;apply V4<;>intro f
  ·exact VZ (DP Tryz.f4 [.ret [Wo (aM a.f0 b)],.b false,.ret [Wo (Vr a b)],.b true] (AD (ny a.f0 b c)<|AC d<|AV (ψ:=fun k=>E.C k 12 [.one (Wx 9 (a.f1.map (Wm q0 q0))),Wr (aM a.f0 b)]=some [Wo (Vr a b)]) (wG a.f1 (aM a.f0 b) e)<|AC f<|AN))
  ·apply V6;intro g;apply V4<;>intro h
   ·exact VZ (DP Tryz.f4 [.ret [Wo (aM a.f0 b)],.b false,.ret [Wo (Vr a b)],.b false,.ret [Wo (fB a.f2 (Vr a b))],.b true] (AD (ny a.f0 b c)<|AC d<|AV (ψ:=fun k=>E.C k 12 [.one (Wx 9 (a.f1.map (Wm q0 q0))),Wr (aM a.f0 b)]=some [Wo (Vr a b)]) (wG a.f1 (aM a.f0 b) e)<|AC f<|AV (ψ:=fun k=>E.C k 13 [.one (Wx 5 (a.f2.map (Wn q0))),Wr (Vr a b)]=some [Wo (fB a.f2 (Vr a b))]) (EA a.f2 (Vr a b) g)<|AC h<|AN))
   ·exact VZ (DP Tryz.f4 [.ret [Wo (aM a.f0 b)],.b false,.ret [Wo (Vr a b)],.b false,.ret [Wo (fB a.f2 (Vr a b))],.b false] (AD (ny a.f0 b c)<|AC d<|AV (ψ:=fun k=>E.C k 12 [.one (Wx 9 (a.f1.map (Wm q0 q0))),Wr (aM a.f0 b)]=some [Wo (Vr a b)]) (wG a.f1 (aM a.f0 b) e)<|AC f<|AV (ψ:=fun k=>E.C k 13 [.one (Wx 5 (a.f2.map (Wn q0))),Wr (Vr a b)]=some [Wo (fB a.f2 (Vr a b))]) (EA a.f2 (Vr a b) g)<|AC h<|AN))
noncomputable def bR (x:LBoard)(n:Int):Int:=(mr x n).getD (-1)
theorem Av (x:LBoard)(n:Int)(h:Wf.wf x):mr x n=some (bR x n):=by obtain⟨w0,a,b⟩:=h;refine Tot.getD ?_ _;unfold mr;repeat' (first|exact Tot.some _|apply Tot.cond|refine Tot.ite (by assumption) ?_)
theorem jo {q0:Kd}(a:LBoard)(b:Int)(h:Wf.wf a):Does E 4 [.agg (Wk .far q0 a),Wr b] [Wo (bR a b)]:=by exact Ny a b _ (Av a b h)
theorem Lq (x:LBoard)(n:Int)(c:Wf.wf x)(i:0≤n)(m:n≤1048576)(h:0≤bR x n):bR x n≤n∧ab.sm x:=by
 have e:=Av x n c;obtain⟨w0,a,b⟩:=c;generalize bR x n=r at *;unfold mr at e;try rw[Wz w0]at e
 obtain⟨d,e⟩:=gL e h;try rw[Wz w0]at e
 obtain⟨o,j⟩:=Fv x.f0 n w0 i (by omega) d;generalize aM x.f0 n=f at *;try rw[Wz a]at e
 obtain⟨a2,e⟩:=gL e h;try rw[Wz a]at e
 obtain⟨p,k⟩:=Lr x.f1 f a d (by omega) a2;generalize bO x.f1 f=g at *;try rw[Wz b]at e
 obtain⟨a3,e⟩:=gL e h;try rw[Wz b]at e
 obtain⟨q,l⟩:=NK x.f2 g b a2 (by omega) a3;generalize fB x.f2 g=s at *;cases e;exact⟨by omega,⟨j,k,l⟩⟩
noncomputable def tu (a:GSession):Option (GSession):=some (a)
theorem Jc (a:GSession):Ans (tu a) (fun r=>Does E 44 [.agg (Wg a)] [(true,Wg r)]):=by unfold tu;exact VZ (DP Tryz.f44 [] AN)
def dF (x:GSession):GSession:=x
theorem Ix (a:GSession)(h:ab.sm a):Does E 44 [.agg (Wg a)] [(true,Wg (dF a))]:=by
 have b:ab.sm a.f2:=h;exact Jc a _ (by
  unfold tu;repeat rw[Wz (by assumption)]
  rfl)
inductive wh where|x0 (v3:List GSession)
def mN (v0 v3:List GSession)(v4:Int):US:=stL 23 [(0,.one (Wx 3 (v0.map Wg))),(3,.one (Ww 3 (v3.map Wg))),(4,Wr v4)]
def oG (a:List GSession):US:=stL 23 [(3,.one (Ww 3 (a.map Wg)))]
abbrev wg:US→Exit→US→Prop:=Round E 19 (aq Tryz.f19 0)
def Fu (v0 v3:List GSession)(v4:Int):wh→Prop| .x0 a=>Loops E 19 (aq Tryz.f19 0) (mN v0 v3 v4) (.exit 0) (oG a)
noncomputable def fe  : List GSession→Nat→(List GSession)→Option wh|[],i,v3=>some (.x0 v3)|hd::rest,i,v3=>if ab.sm hd then(ar v3 (i:Int)).bind fun g1=>fe rest (i+1) (v3.set (i:Int).toNat (dF hd))else none
theorem Ft (v0:List GSession)(rest:List GSession):∀(i:Nat)(v3:List GSession),(v0).drop i=rest→v0.length≤9223372036854775807→Ans (fe rest i v3) (Fu v0 v3 (i:Int)):=by
 induction rest with
 |nil =>intro i v3 a b;have hb:=aP a;unfold fe;exact VZ (V3 (show wg (mN v0 v3 (i:Int)) (.exit 0) (oG v3)from RP [Wu (v0.length:Int),.b false] (ALn v0 Wg<|AC hb<|AN)))
 |cons hd rest d =>intro i v3 a b;have hb:=aI a;have e:=aJ a b;have c:=az a;have f:=aK a;unfold fe;apply V6;intro g;apply V5;intro g1 h;exact(d (i+1) (v3.set (i:Int).toNat (dF hd)) c b).mono fun y j=>by have r:wg (mN v0 v3 (i:Int)) .normal (mN v0 (v3.set (i:Int).toNat (dF hd)) (inc (i:Int))):=RP [Wu (v0.length:Int),.b true,.row (Wg hd),.ret [(true,Wg (dF hd))],.row (Wg g1),.rows ((v3.set (i:Int).toNat (dF hd)).map Wg)] (ALn v0 Wg<|AC hb<|AR Wg f<|AD (Ix hd g)<|AG Wg h<|AC (p:=(v3.map Wg).set (0+(i:Int).toNat) (au (Wg g1) 0 [tI ((dF hd).f0),tI ((dF hd).f1),tS ((dF hd).f2)])=(v3.set (i:Int).toNat (dF hd)).map Wg) (cu (by rfl))<|AN);rw[e]at r;cases y<;>exact V2 r j
noncomputable def rO (a:List GSession):Option ((List GSession)):=
  if 0≤(a.length:Int)∧(a.length:Int)≤(a.length:Int)∧((32:Nat):Int)*(a.length:Int)≤281474976710656∧(a.length:Int)≤4611686018427387904 then if a.length≤9223372036854775807 then(fe a 0 (List.replicate (a.length:Int).toNat (GSession.mk 0 0 ByteArray.empty))).bind fun y=>match y with
   | .x0 b=>(some (b))else none else none
abbrev Vt (x0:List GSession):=List.replicate (x0.length:Int).toNat (GSession.mk 0 0 ByteArray.empty)
theorem GN (x0:List GSession):Ans (rO x0) (fun r=>Does E 19 [.one (Wx 3 (x0.map Wg))] [(false,[Ww 3 (r.map Wg)])]):=by
 unfold rO;apply V6;intro d;apply V6;intro b;apply V5;intro y c;replace c:=Ft x0 x0 0 (Vt x0) rfl b y c;cases y with
 |x0 a =>have e:=c;exact VZ (DP Tryz.f19 [Wu (x0.length:Int),.rows ((Vt x0).map Wg),.lp (.exit 0) (oG a)] (ALn x0 Wg<|AC d<|AC (p:=List.replicate (x0.length:Int).toNat [tI 0,tI 0,tS ByteArray.empty]=(Vt x0).map Wg) (nj rfl)<|AL e<|AN))
def lk (l:List GSession):List GSession:=l
theorem vJ:∀(rest:List GSession)(i:Nat)(v:List GSession),(∀y∈rest,ab.sm y)→v.length=i+rest.length→fe rest i v=some (.x0 (v.take i++rest))
 |[],i,v,_,hv=>by unfold fe;rw[X1 (by simp at hv;omega)];simp
 |x::rest,i,v,h,hv=>by
  have a:=h x (by simp);have hi:i<v.length:=by simp at hv;omega
  unfold fe;rw[dA,WE hi,Wy];try rw[Wz a]
  rw[X2,vJ rest (i+1) _ (fun y b=>h y (by simp[b])) (by simp at hv ⊢;omega),uD hi];simp[dF]
theorem F7 (a:List GSession)(h:ab.sm a):Does E 19 [.one (Wx 3 (a.map Wg))] [(false,[Ww 3 ((lk a).map Wg)])]:=by exact GN a _ (by unfold rO;rw[Wz (yh 32 (by decide) h.1 rfl),Wz (cK h),vJ a 0 _ h.2 (by simp)];simp[lk])
inductive yg where|x0 (v3:List Zz)
def nT (v0 v3:List Zz)(v4:Int):US:=stL 22 [(0,.one (Wx 1 (v0.map etS))),(3,.one (Ww 1 (v3.map etS))),(4,Wr v4)]
def pO (a:List Zz):US:=stL 22 [(3,.one (Ww 1 (a.map etS)))]
abbrev yf:US→Exit→US→Prop:=Round E 131 (aq Tryz.f131 0)
def GP (v0 v3:List Zz)(v4:Int):yg→Prop| .x0 a=>Loops E 131 (aq Tryz.f131 0) (nT v0 v3 v4) (.exit 0) (pO a)
noncomputable def fX  : List Zz→Nat→(List Zz)→Option yg|[],i,v3=>some (.x0 v3)|hd::rest,i,v3=>(ar v3 (i:Int)).bind fun g1=>fX rest (i+1) (v3.set (i:Int).toNat hd)
theorem GO (v0:List Zz)(rest:List Zz):∀(i:Nat)(v3:List Zz),(v0).drop i=rest→v0.length≤9223372036854775807→Ans (fX rest i v3) (GP v0 v3 (i:Int)):=by
 induction rest with
 |nil =>intro i v3 a b;have hb:=aP a;unfold fX;exact VZ (V3 (show yf (nT v0 v3 (i:Int)) (.exit 0) (pO v3)from RP [Wu (v0.length:Int),.b false] (ALn v0 etS<|AC hb<|AN)))
 |cons hd rest d =>intro i v3 a b;have hb:=aI a;have e:=aJ a b;have c:=az a;have f:=aK a;unfold fX;apply V5;intro g1 g;exact(d (i+1) (v3.set (i:Int).toNat hd) c b).mono fun y h=>by have r:yf (nT v0 v3 (i:Int)) .normal (nT v0 (v3.set (i:Int).toNat hd) (inc (i:Int))):=RP [Wu (v0.length:Int),.b true,.row (etS hd),.row (etS g1),.rows ((v3.set (i:Int).toNat hd).map etS)] (ALn v0 etS<|AC hb<|AR etS f<|AG etS g<|AC (p:=(v3.map etS).set (0+(i:Int).toNat) (au (etS g1) 0 [tS hd])=(v3.set (i:Int).toNat hd).map etS) (cu (by rfl))<|AN);rw[e]at r;cases y<;>exact V2 r h
noncomputable def tv (a:List Zz):Option ((List Zz)):=
  if 0≤(a.length:Int)∧(a.length:Int)≤(a.length:Int)∧((16:Nat):Int)*(a.length:Int)≤281474976710656∧(a.length:Int)≤4611686018427387904 then if a.length≤9223372036854775807 then(fX a 0 (List.replicate (a.length:Int).toNat ByteArray.empty)).bind fun y=>match y with
   | .x0 b=>(some (b))else none else none
abbrev Vv (x0:List Zz):=List.replicate (x0.length:Int).toNat ByteArray.empty
theorem Jf (x0:List Zz):Ans (tv x0) (fun r=>Does E 131 [.one (Wx 1 (x0.map etS))] [(false,[Ww 1 (r.map etS)])]):=by
 unfold tv;apply V6;intro d;apply V6;intro b;apply V5;intro y c;replace c:=GO x0 x0 0 (Vv x0) rfl b y c;cases y with
 |x0 a =>have e:=c;exact VZ (DP Tryz.f131 [Wu (x0.length:Int),.rows ((Vv x0).map etS),.lp (.exit 0) (pO a)] (ALn x0 etS<|AC d<|AC (p:=List.replicate (x0.length:Int).toNat [tS ByteArray.empty]=(Vv x0).map etS) (nj rfl)<|AL e<|AN))
def pi (l:List Zz):List Zz:=l
theorem xH:∀(rest:List Zz)(i:Nat)(v:List Zz),(∀y∈rest,ab.sm y)→v.length=i+rest.length→fX rest i v=some (.x0 (v.take i++rest))
 |[],i,v,_,hv=>by unfold fX;rw[X1 (by simp at hv;omega)];simp
 |x::rest,i,v,h,hv=>by
  have a:=h x (by simp);have hi:i<v.length:=by simp at hv;omega
  unfold fX;rw[dA,WE hi,Wy];try rw[Wz a]
  rw[X2,xH rest (i+1) _ (fun y b=>h y (by simp[b])) (by simp at hv ⊢;omega),uD hi];simp
theorem Iy (a:List Zz)(h:ab.sm a):Does E 131 [.one (Wx 1 (a.map etS))] [(false,[Ww 1 ((pi a).map etS)])]:=by exact Jf a _ (by unfold tv;rw[Wz (yh 16 (by decide) h.1 rfl),Wz (cK h),xH a 0 _ h.2 (by simp)];simp[pi])
noncomputable def zq (a:GTask):Option (GTask):=if ab.sm a.f4 then some ((GTask.mk a.f0 a.f1 a.f2 a.f3 (pi a.f4)))else none
theorem Qf (a:GTask):Ans (zq a) (fun r=>Does E 114 [.agg (Wj .far a)] [(true,Wj .own r)]):=by unfold zq;apply V6;intro b;exact VZ (DP Tryz.f114 [.ret [(false,[Ww 1 ((pi a.f4).map etS)])]] (AD (Iy a.f4 b)<|AN))
def eP (x:GTask):GTask:=x
theorem O4 (a:GTask)(h:ab.sm a):Does E 114 [.agg (Wj .far a)] [(true,Wj .own (eP a))]:=by
 obtain⟨w0,b,c⟩:=h;exact Qf a _ (by
  unfold zq;repeat rw[Wz (by assumption)]
  rfl)
inductive BQ where|x0 (v3:List GTask)
def qX (q0:Kd)(v0 v3:List GTask)(v4:Int):US:=stL 23 [(0,.one (Wx 5 (v0.map (Wj q0)))),(3,.one (Ww 5 (v3.map (Wj .own)))),(4,Wr v4)]
def rP (q0:Kd)(a:List GTask):US:=stL 23 [(3,.one (Ww 5 (a.map (Wj .own))))]
abbrev BP:US→Exit→US→Prop:=Round E 97 (aq Tryz.f97 0)
def Lp {q0:Kd}(v0 v3:List GTask)(v4:Int):BQ→Prop| .x0 a=>Loops E 97 (aq Tryz.f97 0) (qX q0 v0 v3 v4) (.exit 0) (rP q0 a)
noncomputable def iD  : List GTask→Nat→(List GTask)→Option BQ|[],i,v3=>some (.x0 v3)|hd::rest,i,v3=>if ab.sm hd then(ar v3 (i:Int)).bind fun g1=>iD rest (i+1) (v3.set (i:Int).toNat (eP hd))else none
theorem Lo {q0:Kd}(v0:List GTask)(rest:List GTask):∀(i:Nat)(v3:List GTask),(v0).drop i=rest→v0.length≤9223372036854775807→Ans (iD rest i v3) (Lp (q0:=q0) v0 v3 (i:Int)):=by
 induction rest with
 |nil =>intro i v3 a b;have hb:=aP a;unfold iD;exact VZ (V3 (show BP (qX q0 v0 v3 (i:Int)) (.exit 0) (rP q0 v3)from RP [Wu (v0.length:Int),.b false] (ALn v0 (Wj q0)<|AC hb<|AN)))
 |cons hd rest d =>intro i v3 a b;have hb:=aI a;have e:=aJ a b;have c:=az a;have f:=aK a;unfold iD;apply V6;intro g;apply V5;intro g1 h;exact(d (i+1) (v3.set (i:Int).toNat (eP hd)) c b).mono fun y j=>by have r:BP (qX q0 v0 v3 (i:Int)) .normal (qX q0 v0 (v3.set (i:Int).toNat (eP hd)) (inc (i:Int))):=RP [Wu (v0.length:Int),.b true,.row ((Wj q0) hd),.ret [(true,Wj .own (eP hd))],.row ((Wj .own) g1),.rows ((v3.set (i:Int).toNat (eP hd)).map (Wj .own))] (ALn v0 (Wj q0)<|AC hb<|AR (Wj q0) f<|AD (O4 hd g)<|AG (Wj .own) h<|AC (p:=(v3.map (Wj .own)).set (0+(i:Int).toNat) (au ((Wj .own) g1) 0 [tS ((eP hd).f0),tS ((eP hd).f1),tI ((eP hd).f2),tB ((eP hd).f3),Ww 1 (((eP hd).f4).map etS)])=(v3.set (i:Int).toNat (eP hd)).map (Wj .own)) (cu (by rfl))<|AN);rw[e]at r;cases y<;>exact V2 r j
noncomputable def xe (a:List GTask):Option ((List GTask)):=
  if 0≤(a.length:Int)∧(a.length:Int)≤(a.length:Int)∧((72:Nat):Int)*(a.length:Int)≤281474976710656∧(a.length:Int)≤4611686018427387904 then if a.length≤9223372036854775807 then(iD a 0 (List.replicate (a.length:Int).toNat (GTask.mk ByteArray.empty ByteArray.empty 0 false ([]:List Zz)))).bind fun y=>match y with
   | .x0 b=>(some (b))else none else none
abbrev Vp (x0:List GTask):=List.replicate (x0.length:Int).toNat (GTask.mk ByteArray.empty ByteArray.empty 0 false ([]:List Zz))
theorem NI {q0:Kd}(x0:List GTask):Ans (xe x0) (fun r=>Does E 97 [.one (Wx 5 (x0.map (Wj q0)))] [(false,[Ww 5 (r.map (Wj .own))])]):=by
 unfold xe;apply V6;intro d;apply V6;intro b;apply V5;intro y c;replace c:=Lo (q0:=q0) x0 x0 0 (Vp x0) rfl b y c;cases y with
 |x0 a =>have e:=c;exact VZ (DP Tryz.f97 [Wu (x0.length:Int),.rows ((Vp x0).map (Wj .own)),.lp (.exit 0) (rP q0 a)] (ALn x0 (Wj q0)<|AC d<|AC (p:=List.replicate (x0.length:Int).toNat [tS ByteArray.empty,tS ByteArray.empty,tI 0,tB false,Ww 1 (([]:List Zz).map etS)]=(Vp x0).map (Wj .own)) (nj rfl)<|AL e<|AN))
def mw (l:List GTask):List GTask:=l
theorem AZ:∀(rest:List GTask)(i:Nat)(v:List GTask),(∀y∈rest,ab.sm y)→v.length=i+rest.length→iD rest i v=some (.x0 (v.take i++rest))
 |[],i,v,_,hv=>by unfold iD;rw[X1 (by simp at hv;omega)];simp
 |x::rest,i,v,h,hv=>by
  have a:=h x (by simp);have hi:i<v.length:=by simp at hv;omega
  unfold iD;rw[dA,WE hi,Wy];try rw[Wz a]
  rw[X2,AZ rest (i+1) _ (fun y b=>h y (by simp[b])) (by simp at hv ⊢;omega),uD hi];simp[eP]
theorem MN {q0:Kd}(a:List GTask)(h:ab.sm a):Does E 97 [.one (Wx 5 (a.map (Wj q0)))] [(false,[Ww 5 ((mw a).map (Wj .own))])]:=by exact NI a _ (by unfold xe;rw[Wz (yh 72 (by decide) h.1 rfl),Wz (cK h),AZ a 0 _ h.2 (by simp)];simp[mw])
noncomputable def BL (a:LDag):Option (GDag):=if ab.sm a.f5 then some ((GDag.mk a.f0 a.f1 a.f2 a.f3 a.f4 (mw a.f5)))else none
theorem RO {q0:Kd}(a:LDag):Ans (BL a) (fun r=>Does E 68 [.agg (Wl .far q0 a)] [(true,Wc .own .own r)]):=by unfold BL;apply V6;intro b;exact VZ (DP Tryz.f68 [.ret [(false,[Ww 5 ((mw a.f5).map (Wj .own))])]] (AV (ψ:=fun k=>E.C k 97 [.one (Wx 5 (a.f5.map (Wj q0)))]=some [(false,[Ww 5 ((mw a.f5).map (Wj .own))])]) (MN a.f5 b)<|AN))
def qg (x:LDag):GDag:=⟨x.f0,x.f1,x.f2,x.f3,x.f4,mw x.f5⟩
theorem QH {x:LDag}(h:ab.sm x):ab.sm (qg x):=by obtain⟨w0,a,b⟩:=h;exact⟨w0,a,b⟩
theorem QX {q0:Kd}(a:LDag)(h:ab.sm a):Does E 68 [.agg (Wl .far q0 a)] [(true,Wc .own .own (qg a))]:=by
 obtain⟨w0,b,c⟩:=h;exact RO a _ (by
  unfold BL;repeat rw[Wz (by assumption)]
  rfl)
noncomputable def zn (a:LPlan):Option (GPlan):=if ab.sm a.f0 then some ((GPlan.mk (qg a.f0) a.f1 a.f2 a.f3))else none
theorem Qc {q0:Kd}(a:LPlan):Ans (zn a) (fun r=>Does E 45 [.agg (Wm .far q0 a)] [(true,Wd .own .own r)]):=by unfold zn;apply V6;intro b;exact VZ (DP Tryz.f45 [.ret [(true,Wc .own .own (qg a.f0))]] (AV (ψ:=fun k=>E.C k 68 [.agg (Wl .far q0 a.f0)]=some [(true,Wc .own .own (qg a.f0))]) (QX a.f0 b)<|AN))
def cp (x:LPlan):GPlan:=⟨qg x.f0,x.f1,x.f2,x.f3⟩
theorem Og {x:LPlan}(h:ab.sm x):ab.sm (cp x):=by have w0:ab.sm x.f0:=h;exact(QH w0)
theorem O1 {q0:Kd}(a:LPlan)(h:ab.sm a):Does E 45 [.agg (Wm .far q0 a)] [(true,Wd .own .own (cp a))]:=by
 have w0:ab.sm a.f0:=h;exact Qc a _ (by
  unfold zn;repeat rw[Wz (by assumption)]
  rfl)
inductive BN where|x0 (v3:List GPlan)
def qV (q0:Kd)(v0:List LPlan)(v3:List GPlan)(v4:Int):US:=stL 23 [(0,.one (Wx 9 (v0.map (Wm q0 q0)))),(3,.one (Ww 9 (v3.map (Wd .own .own)))),(4,Wr v4)]
def rN (q0:Kd)(a:List GPlan):US:=stL 23 [(3,.one (Ww 9 (a.map (Wd .own .own))))]
abbrev BM:US→Exit→US→Prop:=Round E 20 (aq Tryz.f20 0)
def Lm {q0:Kd}(v0:List LPlan)(v3:List GPlan)(v4:Int):BN→Prop| .x0 a=>Loops E 20 (aq Tryz.f20 0) (qV q0 v0 v3 v4) (.exit 0) (rN q0 a)
noncomputable def iC  : List LPlan→Nat→(List GPlan)→Option BN|[],i,v3=>some (.x0 v3)|hd::rest,i,v3=>if ab.sm hd then(ar v3 (i:Int)).bind fun g1=>iC rest (i+1) (v3.set (i:Int).toNat (cp hd))else none
abbrev Vs:=Wd .own .own
theorem Ll {q0:Kd}(v0:List LPlan)(rest:List LPlan):∀(i:Nat)(v3:List GPlan),(v0).drop i=rest→v0.length≤9223372036854775807→Ans (iC rest i v3) (Lm (q0:=q0) v0 v3 (i:Int)):=by
 induction rest with
 |nil =>intro i v3 a b;have hb:=aP a;unfold iC;exact VZ (V3 (show BM (qV q0 v0 v3 (i:Int)) (.exit 0) (rN q0 v3)from RP [Wu (v0.length:Int),.b false] (ALn v0 (Wm q0 q0)<|AC hb<|AN)))
 |cons hd rest d =>intro i v3 a b;have hb:=aI a;have e:=aJ a b;have c:=az a;have f:=aK a;unfold iC;apply V6;intro g;apply V5;intro g1 h;exact(d (i+1) (v3.set (i:Int).toNat (cp hd)) c b).mono fun y j=>by have r:BM (qV q0 v0 v3 (i:Int)) .normal (qV q0 v0 (v3.set (i:Int).toNat (cp hd)) (inc (i:Int))):=RP [Wu (v0.length:Int),.b true,.row ((Wm q0 q0) hd),.ret [(true,Wd .own .own (cp hd))],.row (Vs g1),.rows ((v3.set (i:Int).toNat (cp hd)).map Vs)] (ALn v0 (Wm q0 q0)<|AC hb<|AR (Wm q0 q0) f<|AV (ψ:=fun k=>E.C k 45 [.agg (Wm .far q0 hd)]=some [(true,Wd .own .own (cp hd))]) (O1 hd g)<|AG Vs h<|AC (p:=(v3.map Vs).set (0+(i:Int).toNat) (au (Vs g1) 0 [tS (((cp hd).f0).f0),tS (((cp hd).f0).f1),tI (((cp hd).f0).f2),tI (((cp hd).f0).f3),tB (((cp hd).f0).f4),Ww 5 ((((cp hd).f0).f5).map (Wj .own)),tB ((cp hd).f1),tI ((cp hd).f2),tI ((cp hd).f3)])=(v3.set (i:Int).toNat (cp hd)).map Vs) (cu (by rfl))<|AN);rw[e]at r;cases y<;>exact V2 r j
noncomputable def xc (a:List LPlan):Option ((List GPlan)):=
  if 0≤(a.length:Int)∧(a.length:Int)≤(a.length:Int)∧((104:Nat):Int)*(a.length:Int)≤281474976710656∧(a.length:Int)≤4611686018427387904 then if a.length≤9223372036854775807 then(iC a 0 (List.replicate (a.length:Int).toNat (GPlan.mk (GDag.mk ByteArray.empty ByteArray.empty 0 0 false ([]:List GTask)) false 0 0))).bind fun y=>match y with
   | .x0 b=>(some (b))else none else none
abbrev Vn (x0:List LPlan):=List.replicate (x0.length:Int).toNat (GPlan.mk (GDag.mk ByteArray.empty ByteArray.empty 0 0 false ([]:List GTask)) false 0 0)
theorem NE {q0:Kd}(x0:List LPlan):Ans (xc x0) (fun r=>Does E 20 [.one (Wx 9 (x0.map (Wm q0 q0)))] [(false,[Ww 9 (r.map Vs)])]):=by
 unfold xc;apply V6;intro d;apply V6;intro b;apply V5;intro y c;replace c:=Ll (q0:=q0) x0 x0 0 (Vn x0) rfl b y c;cases y with
 |x0 a =>have e:=c;exact VZ (DP Tryz.f20 [Wu (x0.length:Int),.rows ((Vn x0).map Vs),.lp (.exit 0) (rN q0 a)] (ALn x0 (Wm q0 q0)<|AC d<|AC (p:=List.replicate (x0.length:Int).toNat [tS ByteArray.empty,tS ByteArray.empty,tI 0,tI 0,tB false,Ww 5 (([]:List GTask).map (Wj .own)),tB false,tI 0,tI (0:Int)]=(Vn x0).map Vs) (nj rfl)<|AL e<|AN))
def jx (l:List LPlan):List GPlan:=l.map cp
theorem AY:∀(rest:List LPlan)(i:Nat)(v:List GPlan),(∀y∈rest,ab.sm y)→v.length=i+rest.length→iC rest i v=some (.x0 (v.take i++rest.map cp))
 |[],i,v,_,hv=>by unfold iC;rw[X1 (by simp at hv;omega)];simp
 |x::rest,i,v,h,hv=>by
  have a:=h x (by simp);have hi:i<v.length:=by simp at hv;omega
  unfold iC;rw[dA,WE hi,Wy];try rw[Wz a]
  rw[X2,AY rest (i+1) _ (fun y b=>h y (by simp[b])) (by simp at hv ⊢;omega),uD hi];simp
theorem Mq {l:List LPlan}(h:ab.sm l):ab.sm (jx l):=⟨by unfold jx;rw[W6];exact h.1,fun y a=>by obtain⟨x,b,rfl⟩:=WU.1 a;exact Og (h.2 x b)⟩
theorem ML {q0:Kd}(a:List LPlan)(h:ab.sm a):Does E 20 [.one (Wx 9 (a.map (Wm q0 q0)))] [(false,[Ww 9 ((jx a).map (Wd .own .own))])]:=by exact NE a _ (by unfold xc;rw[Wz (yh 104 (by decide) h.1 rfl),Wz (cK h),AY a 0 _ h.2 (by simp)];simp[jx])
noncomputable def zp (a:GSpan):Option (GSpan):=some (a)
theorem Qe (a:GSpan):Ans (zp a) (fun r=>Does E 69 [.agg (Wh a)] [(true,Wh r)]):=by unfold zp;exact VZ (DP Tryz.f69 [] AN)
def ul (x:GSpan):GSpan:=x
theorem O3 (a:GSpan)(h:ab.sm a):Does E 69 [.agg (Wh a)] [(true,Wh (ul a))]:=by
 skip
 exact Qe a _ (by
  unfold zp;repeat rw[Wz (by assumption)]
  rfl)
noncomputable def xd (a:GState):Option (GState):=some (a)
theorem NH (a:GState):Ans (xd a) (fun r=>Does E 98 [.agg (Wi a)] [(true,Wi r)]):=by unfold xd;exact VZ (DP Tryz.f98 [] AN)
def eG (x:GState):GState:=x
theorem MM (a:GState)(h:ab.sm a):Does E 98 [.agg (Wi a)] [(true,Wi (eG a))]:=by
 skip
 exact NH a _ (by
  unfold xd;repeat rw[Wz (by assumption)]
  rfl)
inductive Ag where|x0 (v3:List GState)
def pd (v0 v3:List GState)(v4:Int):US:=stL 23 [(0,.one (Wx 4 (v0.map Wi))),(3,.one (Ww 4 (v3.map Wi))),(4,Wr v4)]
def qW (a:List GState):US:=stL 23 [(3,.one (Ww 4 (a.map Wi)))]
abbrev Af:US→Exit→US→Prop:=Round E 70 (aq Tryz.f70 0)
def Je (v0 v3:List GState)(v4:Int):Ag→Prop| .x0 a=>Loops E 70 (aq Tryz.f70 0) (pd v0 v3 v4) (.exit 0) (qW a)
noncomputable def gW  : List GState→Nat→(List GState)→Option Ag|[],i,v3=>some (.x0 v3)|hd::rest,i,v3=>if ab.sm hd then(ar v3 (i:Int)).bind fun g1=>gW rest (i+1) (v3.set (i:Int).toNat (eG hd))else none
theorem Jd (v0:List GState)(rest:List GState):∀(i:Nat)(v3:List GState),(v0).drop i=rest→v0.length≤9223372036854775807→Ans (gW rest i v3) (Je v0 v3 (i:Int)):=by
 induction rest with
 |nil =>intro i v3 a b;have hb:=aP a;unfold gW;exact VZ (V3 (show Af (pd v0 v3 (i:Int)) (.exit 0) (qW v3)from RP [Wu (v0.length:Int),.b false] (ALn v0 Wi<|AC hb<|AN)))
 |cons hd rest d =>intro i v3 a b;have hb:=aI a;have e:=aJ a b;have c:=az a;have f:=aK a;unfold gW;apply V6;intro g;apply V5;intro g1 h;exact(d (i+1) (v3.set (i:Int).toNat (eG hd)) c b).mono fun y j=>by have r:Af (pd v0 v3 (i:Int)) .normal (pd v0 (v3.set (i:Int).toNat (eG hd)) (inc (i:Int))):=RP [Wu (v0.length:Int),.b true,.row (Wi hd),.ret [(true,Wi (eG hd))],.row (Wi g1),.rows ((v3.set (i:Int).toNat (eG hd)).map Wi)] (ALn v0 Wi<|AC hb<|AR Wi f<|AD (MM hd g)<|AG Wi h<|AC (p:=(v3.map Wi).set (0+(i:Int).toNat) (au (Wi g1) 0 [tI ((eG hd).f0),tI ((eG hd).f1),tI ((eG hd).f2),tI ((eG hd).f3)])=(v3.set (i:Int).toNat (eG hd)).map Wi) (cu (by rfl))<|AN);rw[e]at r;cases y<;>exact V2 r j
noncomputable def u7 (a:List GState):Option ((List GState)):=
  if 0≤(a.length:Int)∧(a.length:Int)≤(a.length:Int)∧((32:Nat):Int)*(a.length:Int)≤281474976710656∧(a.length:Int)≤4611686018427387904 then if a.length≤9223372036854775807 then(gW a 0 (List.replicate (a.length:Int).toNat (GState.mk 0 0 0 0))).bind fun y=>match y with
   | .x0 b=>(some (b))else none else none
abbrev Vu (x0:List GState):=List.replicate (x0.length:Int).toNat (GState.mk 0 0 0 0)
theorem Ln (x0:List GState):Ans (u7 x0) (fun r=>Does E 70 [.one (Wx 4 (x0.map Wi))] [(false,[Ww 4 (r.map Wi)])]):=by
 unfold u7;apply V6;intro d;apply V6;intro b;apply V5;intro y c;replace c:=Jd x0 x0 0 (Vu x0) rfl b y c;cases y with
 |x0 a =>have e:=c;exact VZ (DP Tryz.f70 [Wu (x0.length:Int),.rows ((Vu x0).map Wi),.lp (.exit 0) (qW a)] (ALn x0 Wi<|AC d<|AC (p:=List.replicate (x0.length:Int).toNat [tI 0,tI 0,tI 0,tI (0:Int)]=(Vu x0).map Wi) (nj rfl)<|AL e<|AN))
def ni (l:List GState):List GState:=l
theorem zV:∀(rest:List GState)(i:Nat)(v:List GState),(∀y∈rest,ab.sm y)→v.length=i+rest.length→gW rest i v=some (.x0 (v.take i++rest))
 |[],i,v,_,hv=>by unfold gW;rw[X1 (by simp at hv;omega)];simp
 |x::rest,i,v,h,hv=>by
  have a:=h x (by simp);have hi:i<v.length:=by simp at hv;omega
  unfold gW;rw[dA,WE hi,Wy];try rw[Wz a]
  rw[X2,zV rest (i+1) _ (fun y b=>h y (by simp[b])) (by simp at hv ⊢;omega),uD hi];simp[eG]
theorem Kb (a:List GState)(h:ab.sm a):Does E 70 [.one (Wx 4 (a.map Wi))] [(false,[Ww 4 ((ni a).map Wi)])]:=by exact Ln a _ (by unfold u7;rw[Wz (yh 32 (by decide) h.1 rfl),Wz (cK h),zV a 0 _ h.2 (by simp)];simp[ni])
noncomputable def BO (a:LRun):Option (GRun):=if ab.sm a.f1 then if ab.sm a.f3 then some ((GRun.mk a.f0 (ul a.f1) a.f2 (ni a.f3)))else none else none
theorem RQ (a:LRun):Ans (BO a) (fun r=>Does E 46 [.agg (Wn .far a)] [(true,We .own r)]):=by unfold BO;apply V6;intro b;apply V6;intro c;exact VZ (DP Tryz.f46 [.ret [(true,Wh (ul a.f1))],.ret [(false,[Ww 4 ((ni a.f3).map Wi)])]] (AD (O3 a.f1 b)<|AD (Kb a.f3 c)<|AN))
def ez (x:LRun):GRun:=⟨x.f0,ul x.f1,x.f2,ni x.f3⟩
theorem QI {x:LRun}(h:ab.sm x):ab.sm (ez x):=by obtain⟨w0,a,b⟩:=h;exact⟨w0,a,b⟩
theorem QY (a:LRun)(h:ab.sm a):Does E 46 [.agg (Wn .far a)] [(true,We .own (ez a))]:=by
 obtain⟨w0,b,c⟩:=h;exact RQ a _ (by
  unfold BO;repeat rw[Wz (by assumption)]
  rfl)
inductive Dd where|x0 (v3:List GRun)
def sC (q0:Kd)(v0:List LRun)(v3:List GRun)(v4:Int):US:=stL 23 [(0,.one (Wx 5 (v0.map (Wn q0)))),(3,.one (Ww 5 (v3.map (We .own)))),(4,Wr v4)]
def tt (q0:Kd)(a:List GRun):US:=stL 23 [(3,.one (Ww 5 (a.map (We .own))))]
abbrev Db:US→Exit→US→Prop:=Round E 21 (aq Tryz.f21 0)
def NG {q0:Kd}(v0:List LRun)(v3:List GRun)(v4:Int):Dd→Prop| .x0 a=>Loops E 21 (aq Tryz.f21 0) (sC q0 v0 v3 v4) (.exit 0) (tt q0 a)
noncomputable def jv  : List LRun→Nat→(List GRun)→Option Dd|[],i,v3=>some (.x0 v3)|hd::rest,i,v3=>if ab.sm hd then(ar v3 (i:Int)).bind fun g1=>jv rest (i+1) (v3.set (i:Int).toNat (ez hd))else none
theorem NF {q0:Kd}(v0:List LRun)(rest:List LRun):∀(i:Nat)(v3:List GRun),(v0).drop i=rest→v0.length≤9223372036854775807→Ans (jv rest i v3) (NG (q0:=q0) v0 v3 (i:Int)):=by
 induction rest with
 |nil =>intro i v3 a b;have hb:=aP a;unfold jv;exact VZ (V3 (show Db (sC q0 v0 v3 (i:Int)) (.exit 0) (tt q0 v3)from RP [Wu (v0.length:Int),.b false] (ALn v0 (Wn q0)<|AC hb<|AN)))
 |cons hd rest d =>intro i v3 a b;have hb:=aI a;have e:=aJ a b;have c:=az a;have f:=aK a;unfold jv;apply V6;intro g;apply V5;intro g1 h;exact(d (i+1) (v3.set (i:Int).toNat (ez hd)) c b).mono fun y j=>by have r:Db (sC q0 v0 v3 (i:Int)) .normal (sC q0 v0 (v3.set (i:Int).toNat (ez hd)) (inc (i:Int))):=RP [Wu (v0.length:Int),.b true,.row ((Wn q0) hd),.ret [(true,We .own (ez hd))],.row ((We .own) g1),.rows ((v3.set (i:Int).toNat (ez hd)).map (We .own))] (ALn v0 (Wn q0)<|AC hb<|AR (Wn q0) f<|AD (QY hd g)<|AG (We .own) h<|AC (p:=(v3.map (We .own)).set (0+(i:Int).toNat) (au ((We .own) g1) 0 [tS ((ez hd).f0),tI (((ez hd).f1).f0),tI (((ez hd).f1).f1),tI ((ez hd).f2),Ww 4 (((ez hd).f3).map Wi)])=(v3.set (i:Int).toNat (ez hd)).map (We .own)) (cu (by rfl))<|AN);rw[e]at r;cases y<;>exact V2 r j
noncomputable def zo (a:List LRun):Option ((List GRun)):=
  if 0≤(a.length:Int)∧(a.length:Int)≤(a.length:Int)∧((64:Nat):Int)*(a.length:Int)≤281474976710656∧(a.length:Int)≤4611686018427387904 then if a.length≤9223372036854775807 then(jv a 0 (List.replicate (a.length:Int).toNat (GRun.mk ByteArray.empty (GSpan.mk 0 0) 0 ([]:List GState)))).bind fun y=>match y with
   | .x0 b=>(some (b))else none else none
abbrev Vq (x0:List LRun):=List.replicate (x0.length:Int).toNat (GRun.mk ByteArray.empty (GSpan.mk 0 0) 0 ([]:List GState))
theorem Qd {q0:Kd}(x0:List LRun):Ans (zo x0) (fun r=>Does E 21 [.one (Wx 5 (x0.map (Wn q0)))] [(false,[Ww 5 (r.map (We .own))])]):=by
 unfold zo;apply V6;intro d;apply V6;intro b;apply V5;intro y c;replace c:=NF (q0:=q0) x0 x0 0 (Vq x0) rfl b y c;cases y with
 |x0 a =>have e:=c;exact VZ (DP Tryz.f21 [Wu (x0.length:Int),.rows ((Vq x0).map (We .own)),.lp (.exit 0) (tt q0 a)] (ALn x0 (Wn q0)<|AC d<|AC (p:=List.replicate (x0.length:Int).toNat [tS ByteArray.empty,tI 0,tI 0,tI 0,Ww 4 (([]:List GState).map Wi)]=(Vq x0).map (We .own)) (nj rfl)<|AL e<|AN))
def kF (l:List LRun):List GRun:=l.map ez
theorem CX:∀(rest:List LRun)(i:Nat)(v:List GRun),(∀y∈rest,ab.sm y)→v.length=i+rest.length→jv rest i v=some (.x0 (v.take i++rest.map ez))
 |[],i,v,_,hv=>by unfold jv;rw[X1 (by simp at hv;omega)];simp
 |x::rest,i,v,h,hv=>by
  have a:=h x (by simp);have hi:i<v.length:=by simp at hv;omega
  unfold jv;rw[dA,WE hi,Wy];try rw[Wz a]
  rw[X2,CX rest (i+1) _ (fun y b=>h y (by simp[b])) (by simp at hv ⊢;omega),uD hi];simp
theorem Oh {l:List LRun}(h:ab.sm l):ab.sm (kF l):=⟨by unfold kF;rw[W6];exact h.1,fun y a=>by obtain⟨x,b,rfl⟩:=WU.1 a;exact QI (h.2 x b)⟩
theorem O2 {q0:Kd}(a:List LRun)(h:ab.sm a):Does E 21 [.one (Wx 5 (a.map (Wn q0)))] [(false,[Ww 5 ((kF a).map (We .own))])]:=by exact Qd a _ (by unfold zo;rw[Wz (yh 64 (by decide) h.1 rfl),Wz (cK h),CX a 0 _ h.2 (by simp)];simp[kF])
noncomputable def xb (a:LBoard):Option (GBoard):=if ab.sm a.f0 then if ab.sm a.f1 then if ab.sm a.f2 then some ((GBoard.mk (lk a.f0) (jx a.f1) (kF a.f2) a.f3 a.f4))else none else none else none
theorem ND {q0:Kd}(a:LBoard):Ans (xb a) (fun r=>Does E 6 [.agg (Wk .far q0 a)] [(true,Wa .own .own r)]):=by unfold xb;apply V6;intro b;apply V6;intro c;apply V6;intro d;exact VZ (DP Tryz.f6 [.ret [(false,[Ww 3 ((lk a.f0).map Wg)])],.ret [(false,[Ww 9 ((jx a.f1).map Vs)])],.ret [(false,[Ww 5 ((kF a.f2).map (We .own))])]] (AD (F7 a.f0 b)<|AV (ψ:=fun k=>E.C k 20 [.one (Wx 9 (a.f1.map (Wm q0 q0)))]=some [(false,[Ww 9 ((jx a.f1).map Vs)])]) (ML a.f1 c)<|AV (ψ:=fun k=>E.C k 21 [.one (Wx 5 (a.f2.map (Wn q0)))]=some [(false,[Ww 5 ((kF a.f2).map (We .own))])]) (O2 a.f2 d)<|AN))
def gi (x:LBoard):GBoard:=⟨lk x.f0,jx x.f1,kF x.f2,x.f3,x.f4⟩
theorem Mp {x:LBoard}(h:ab.sm x):ab.sm (gi x):=by obtain⟨w0,a,b⟩:=h;exact⟨w0,(Mq a),(Oh b)⟩
theorem MK {q0:Kd}(a:LBoard)(h:ab.sm a):Does E 6 [.agg (Wk .far q0 a)] [(true,Wa .own .own (gi a))]:=by
 obtain⟨w0,b,c⟩:=h;exact ND a _ (by
  unfold xb;repeat rw[Wz (by assumption)]
  rfl)
noncomputable def tn (a b:GSession):Option (Bool):=cond (a.f0 != b.f0) (some (false)) (cond (a.f1 != b.f1) (some (false)) (cond (!(a.f2.toList==b.f2.toList)) (some (false)) (some (true))))
theorem IN (c d:GSession):Ans (tn c d) (fun r=>Does E 54 [.agg (Wg c),.agg (Wg d)] [Wp r]):=by
 unfold tn;apply V4<;>intro a
 ·exact VZ (DP Tryz.f54 [.b true] (AC a<|AN))
 ·apply V4<;>intro b
  ·exact VZ (DP Tryz.f54 [.b false,.b true] (AC a<|AC b<|AN))
  ·apply V4<;>intro e
   ·exact VZ (DP Tryz.f54 [.b false,.b false,.b true] (AC a<|AC b<|AC e<|AN))
   ·exact VZ (DP Tryz.f54 [.b false,.b false,.b false] (AC a<|AC b<|AC e<|AN))
theorem zO (a:GSession)(b:GSession)(e:a=b)(h:ab.sm a):Does E 54 [.agg (Wg a),.agg (Wg b)] [Wp (yes a b)]:=by subst e;have c:ab.sm a.f2:=h;exact IN a a _ (by unfold tn;simp only[W8,yes,Xl,Yd,Xq,WO,WK])
inductive vZ where|ret (v4:Bool)|x0
def iW (v0 v1:List GSession)(v5:Int):US:=stL 27 [(0,.one (Wx 3 (v0.map Wg))),(1,.one (Wx 3 (v1.map Wg))),(5,Wr v5)]
def nc (a:Bool):US:=stL 27 [(4,Ws a)]
def oA  : US:=stL 27 []
abbrev qL:US→Exit→US→Prop:=Round E 24 (aq Tryz.f24 0)
def Fi (v0 v1:List GSession)(v5:Int):vZ→Prop| .ret a=>Loops E 24 (aq Tryz.f24 0) (iW v0 v1 v5) .ret (nc a)| .x0=>Loops E 24 (aq Tryz.f24 0) (iW v0 v1 v5) (.exit 0) (oA)
noncomputable def gy (v1:List GSession):List GSession→Nat→Option vZ|[],i=>some (.x0)|hd::rest,i=>(ar v1 (i:Int)).bind fun g1=>if hd=g1 then if ab.sm hd then cond (yes hd g1) (gy v1 rest (i+1)) (some (.ret false))else none else none
theorem Fh (v0 v1:List GSession)(rest:List GSession):∀(i:Nat) ,(v0).drop i=rest→v0.length≤9223372036854775807→Ans (gy v1 rest i) (Fi v0 v1 (i:Int)):=by
 induction rest with
 |nil =>intro i a b;have hb:=aP a;unfold gy;exact VZ (V3 (show qL (iW v0 v1 (i:Int)) (.exit 0) (oA)from RP [Wu (v0.length:Int),.b false] (ALn v0 Wg<|AC hb<|AN)))
 |cons hd rest j =>
  intro i a b;have hb:=aI a;have k:=aJ a b;have c:=az a;have d:=aK a;unfold gy;apply V5;intro g1 e;apply V6;intro f;apply V6;intro g;apply V4<;>intro h
  ·exact(j (i+1) c b).mono fun y l=>by have r:qL (iW v0 v1 (i:Int)) .normal (iW v0 v1 (inc (i:Int))):=RP [Wu (v0.length:Int),.b true,.row (Wg hd),.row (Wg g1),rT] (ALn v0 Wg<|AC hb<|AR Wg d<|AR Wg e<|AD (V9 (zO hd g1 f g) h)<|AN);rw[k]at r;cases y<;>exact V2 r l
  ·exact VZ (V3 (show qL (iW v0 v1 (i:Int)) .ret (nc false)from RP [Wu (v0.length:Int),.b true,.row (Wg hd),.row (Wg g1),rF] (ALn v0 Wg<|AC hb<|AR Wg d<|AR Wg e<|AD (V9 (zO hd g1 f g) h)<|AN)))
noncomputable def rG (b c:List GSession):Option (Bool):=
  cond ((b.length:Int) != (c.length:Int))
   (some (false))
   (if b.length≤9223372036854775807 then(gy c b 0).bind fun y=>match y with
    | .ret a=>(some (a))
    | .x0=>(some (true))else none)
theorem Gx (x0 a:List GSession):Ans (rG x0 a) (fun r=>Does E 24 [.one (Wx 3 (x0.map Wg)),.one (Wx 3 (a.map Wg))] [Wp r]):=by
 unfold rG;apply V4<;>intro d
 ·exact VZ (DP Tryz.f24 [Wu (x0.length:Int),Wu (a.length:Int),.b true] (ALn x0 Wg<|ALn a Wg<|AC d<|AN))
 ·apply V6;intro e;apply V5;intro y c;replace c:=Fh x0 a x0 0 rfl e y c;cases y with
  |ret b =>have f:=c;exact VZ (DP Tryz.f24 [Wu (x0.length:Int),Wu (a.length:Int),.b false,.lp .ret (nc b)] (ALn x0 Wg<|ALn a Wg<|AC d<|AL f<|AN))
  |x0 =>have f:=c;exact VZ (DP Tryz.f24 [Wu (x0.length:Int),Wu (a.length:Int),.b false,.lp (.exit 0) (oA)] (ALn x0 Wg<|ALn a Wg<|AC d<|AL f<|AN))
theorem vN (l:List GSession):∀(rest:List GSession)(i:Nat),l.drop i=rest→(∀y∈rest,ab.sm y)→gy l rest i=some .x0
 |[],i,_,_=>rfl
 |x::rest,i,a,h=>by have b:=h x (by simp);unfold gy;rw[aK a,Wy];simp only[b,W8,yes,Xl,Yd,Xq,WO,WK];exact vN l rest (i+1) (az a) (fun y c=>h y (by simp[c]))
theorem jC (a:List GSession)(b:List GSession)(e:a=b)(h:ab.sm a):Does E 24 [.one (Wx 3 (a.map Wg)),.one (Wx 3 (b.map Wg))] [Wp (yes a b)]:=by subst e;exact Gx a a _ (by unfold rG;rw[Wz (cK h),vN a a 0 rfl h.2];simp[yes])
inductive x7 where|ret (v4:Bool)|x0
def jG (v0 v1:List Zz)(v5:Int):US:=stL 26 [(0,.one (Wx 1 (v0.map etS))),(1,.one (Wx 1 (v1.map etS))),(5,Wr v5)]
def oB (a:Bool):US:=stL 26 [(4,Ws a)]
def pH  : US:=stL 26 []
abbrev rH:US→Exit→US→Prop:=Round E 147 (aq Tryz.f147 0)
def Gz (v0 v1:List Zz)(v5:Int):x7→Prop| .ret a=>Loops E 147 (aq Tryz.f147 0) (jG v0 v1 v5) .ret (oB a)| .x0=>Loops E 147 (aq Tryz.f147 0) (jG v0 v1 v5) (.exit 0) (pH)
noncomputable def ig (v1:List Zz):List Zz→Nat→Option x7|[],i=>some (.x0)|hd::rest,i=>(ar v1 (i:Int)).bind fun g1=>cond (!(hd.toList==g1.toList)) (some (.ret false)) (ig v1 rest (i+1))
theorem Gy (v0 v1:List Zz)(rest:List Zz):∀(i:Nat) ,(v0).drop i=rest→v0.length≤9223372036854775807→Ans (ig v1 rest i) (Gz v0 v1 (i:Int)):=by
 induction rest with
 |nil =>intro i a b;have hb:=aP a;unfold ig;exact VZ (V3 (show rH (jG v0 v1 (i:Int)) (.exit 0) (pH)from RP [Wu (v0.length:Int),.b false] (ALn v0 etS<|AC hb<|AN)))
 |cons hd rest g =>
  intro i a b;have hb:=aI a;have h:=aJ a b;have c:=az a;have d:=aK a;unfold ig;apply V5;intro g1 e;apply V4<;>intro f
  ·exact VZ (V3 (show rH (jG v0 v1 (i:Int)) .ret (oB false)from RP [Wu (v0.length:Int),.b true,.row (etS hd),.row (etS g1),.b true] (ALn v0 etS<|AC hb<|AR etS d<|AR etS e<|AC f<|AN)))
  ·exact(g (i+1) c b).mono fun y j=>by have r:rH (jG v0 v1 (i:Int)) .normal (jG v0 v1 (inc (i:Int))):=RP [Wu (v0.length:Int),.b true,.row (etS hd),.row (etS g1),.b false] (ALn v0 etS<|AC hb<|AR etS d<|AR etS e<|AC f<|AN);rw[h]at r;cases y<;>exact V2 r j
noncomputable def tq (b c:List Zz):Option (Bool):=
  cond ((b.length:Int) != (c.length:Int))
   (some (false))
   (if b.length≤9223372036854775807 then(ig c b 0).bind fun y=>match y with
    | .ret a=>(some (a))
    | .x0=>(some (true))else none)
theorem IR (x0 a:List Zz):Ans (tq x0 a) (fun r=>Does E 147 [.one (Wx 1 (x0.map etS)),.one (Wx 1 (a.map etS))] [Wp r]):=by
 unfold tq;apply V4<;>intro d
 ·exact VZ (DP Tryz.f147 [Wu (x0.length:Int),Wu (a.length:Int),.b true] (ALn x0 etS<|ALn a etS<|AC d<|AN))
 ·apply V6;intro e;apply V5;intro y c;replace c:=Gy x0 a x0 0 rfl e y c;cases y with
  |ret b =>have f:=c;exact VZ (DP Tryz.f147 [Wu (x0.length:Int),Wu (a.length:Int),.b false,.lp .ret (oB b)] (ALn x0 etS<|ALn a etS<|AC d<|AL f<|AN))
  |x0 =>have f:=c;exact VZ (DP Tryz.f147 [Wu (x0.length:Int),Wu (a.length:Int),.b false,.lp (.exit 0) (pH)] (ALn x0 etS<|ALn a etS<|AC d<|AL f<|AN))
theorem xJ (l:List Zz):∀(rest:List Zz)(i:Nat),l.drop i=rest→(∀y∈rest,ab.sm y)→ig l rest i=some .x0
 |[],i,_,_=>rfl
 |x::rest,i,a,h=>by have b:=h x (by simp);unfold ig;rw[aK a,Wy];simp only[b,W8,yes,Xl,Yd,Xq,WO,WK];exact xJ l rest (i+1) (az a) (fun y c=>h y (by simp[c]))
theorem zP (a:List Zz)(b:List Zz)(e:a=b)(h:ab.sm a):Does E 147 [.one (Wx 1 (a.map etS)),.one (Wx 1 (b.map etS))] [Wp (yes a b)]:=by subst e;exact IR a a _ (by unfold tq;rw[Wz (cK h),xJ a a 0 rfl h.2];simp[yes])
noncomputable def zm (a b:GTask):Option (Bool):=cond (!(a.f0.toList==b.f0.toList)) (some (false)) (cond (!(a.f1.toList==b.f1.toList)) (some (false)) (cond (a.f2 != b.f2) (some (false)) (cond (!(a.f3==b.f3)) (some (false)) (if a.f4=b.f4 then if ab.sm a.f4 then cond (yes a.f4 b.f4) (some (true)) (some (false))else none else none))))
theorem P8 (c d:GTask):Ans (zm c d) (fun r=>Does E 125 [.agg (Wj .far c),.agg (Wj .far d)] [Wp r]):=by
 unfold zm;apply V4<;>intro a
 ·exact VZ (DP Tryz.f125 [.b true] (AC a<|AN))
 ·apply V4<;>intro b
  ·exact VZ (DP Tryz.f125 [.b false,.b true] (AC a<|AC b<|AN))
  ·apply V4<;>intro e
   ·exact VZ (DP Tryz.f125 [.b false,.b false,.b true] (AC a<|AC b<|AC e<|AN))
   ·apply V4<;>intro f
    ·exact VZ (DP Tryz.f125 [.b false,.b false,.b false,.b true] (AC a<|AC b<|AC e<|AC f<|AN))
    ·apply V6;intro g;apply V6;intro h;apply V4<;>intro i
     ·exact VZ (DP Tryz.f125 [.b false,.b false,.b false,.b false,rT] (AC a<|AC b<|AC e<|AC f<|AD (V9 (zP c.f4 d.f4 g h) i)<|AN))
     ·exact VZ (DP Tryz.f125 [.b false,.b false,.b false,.b false,rF] (AC a<|AC b<|AC e<|AC f<|AD (V9 (zP c.f4 d.f4 g h) i)<|AN))
theorem Ex (a:GTask)(b:GTask)(e:a=b)(h:ab.sm a):Does E 125 [.agg (Wj .far a),.agg (Wj .far b)] [Wp (yes a b)]:=by subst e;obtain⟨w0,d,c⟩:=h;exact P8 a a _ (by unfold zm;simp only[c,W8,yes,Xl,Yd,Xq,WO,WK])
inductive BI where|ret (v4:Bool)|x0
def lf (q0:Kd)(q1:Kd)(v0 v1:List GTask)(v5:Int):US:=stL 27 [(0,.one (Wx 5 (v0.map (Wj q0)))),(1,.one (Wx 5 (v1.map (Wj q1)))),(5,Wr v5)]
def qN (q0:Kd)(q1:Kd)(a:Bool):US:=stL 27 [(4,Ws a)]
def rI (q0:Kd)(q1:Kd)  : US:=stL 27 []
abbrev uY:US→Exit→US→Prop:=Round E 106 (aq Tryz.f106 0)
def Lc {q0:Kd}{q1:Kd}(v0 v1:List GTask)(v5:Int):BI→Prop| .ret a=>Loops E 106 (aq Tryz.f106 0) (lf q0 q1 v0 v1 v5) .ret (qN q0 q1 a)| .x0=>Loops E 106 (aq Tryz.f106 0) (lf q0 q1 v0 v1 v5) (.exit 0) (rI q0 q1)
noncomputable def jU (v1:List GTask):List GTask→Nat→Option BI|[],i=>some (.x0)|hd::rest,i=>(ar v1 (i:Int)).bind fun g1=>if hd=g1 then if ab.sm hd then cond (yes hd g1) (jU v1 rest (i+1)) (some (.ret false))else none else none
theorem Lb {q0:Kd}{q1:Kd}(v0 v1:List GTask)(rest:List GTask):∀(i:Nat) ,(v0).drop i=rest→v0.length≤9223372036854775807→Ans (jU v1 rest i) (Lc (q0:=q0) (q1:=q1) v0 v1 (i:Int)):=by
 induction rest with
 |nil =>intro i a b;have hb:=aP a;unfold jU;exact VZ (V3 (show uY (lf q0 q1 v0 v1 (i:Int)) (.exit 0) (rI q0 q1)from RP [Wu (v0.length:Int),.b false] (ALn v0 (Wj q0)<|AC hb<|AN)))
 |cons hd rest j =>
  intro i a b;have hb:=aI a;have k:=aJ a b;have c:=az a;have d:=aK a;unfold jU;apply V5;intro g1 e;apply V6;intro f;apply V6;intro g;apply V4<;>intro h
  ·exact(j (i+1) c b).mono fun y l=>by have r:uY (lf q0 q1 v0 v1 (i:Int)) .normal (lf q0 q1 v0 v1 (inc (i:Int))):=RP [Wu (v0.length:Int),.b true,.row ((Wj q0) hd),.row ((Wj q1) g1),rT] (ALn v0 (Wj q0)<|AC hb<|AR (Wj q0) d<|AR (Wj q1) e<|AD (V9 (Ex hd g1 f g) h)<|AN);rw[k]at r;cases y<;>exact V2 r l
  ·exact VZ (V3 (show uY (lf q0 q1 v0 v1 (i:Int)) .ret (qN q0 q1 false)from RP [Wu (v0.length:Int),.b true,.row ((Wj q0) hd),.row ((Wj q1) g1),rF] (ALn v0 (Wj q0)<|AC hb<|AR (Wj q0) d<|AR (Wj q1) e<|AD (V9 (Ex hd g1 f g) h)<|AN)))
noncomputable def w6 (b c:List GTask):Option (Bool):=
  cond ((b.length:Int) != (c.length:Int))
   (some (false))
   (if b.length≤9223372036854775807 then(jU c b 0).bind fun y=>match y with
    | .ret a=>(some (a))
    | .x0=>(some (true))else none)
theorem Nx {q0:Kd}{q1:Kd}(x0 a:List GTask):Ans (w6 x0 a) (fun r=>Does E 106 [.one (Wx 5 (x0.map (Wj q0))),.one (Wx 5 (a.map (Wj q1)))] [Wp r]):=by
 unfold w6;apply V4<;>intro d
 ·exact VZ (DP Tryz.f106 [Wu (x0.length:Int),Wu (a.length:Int),.b true] (ALn x0 (Wj q0)<|ALn a (Wj q1)<|AC d<|AN))
 ·apply V6;intro e;apply V5;intro y c;replace c:=Lb (q0:=q0) (q1:=q1) x0 a x0 0 rfl e y c;cases y with
  |ret b =>have f:=c;exact VZ (DP Tryz.f106 [Wu (x0.length:Int),Wu (a.length:Int),.b false,.lp .ret (qN q0 q1 b)] (ALn x0 (Wj q0)<|ALn a (Wj q1)<|AC d<|AL f<|AN))
  |x0 =>have f:=c;exact VZ (DP Tryz.f106 [Wu (x0.length:Int),Wu (a.length:Int),.b false,.lp (.exit 0) (rI q0 q1)] (ALn x0 (Wj q0)<|ALn a (Wj q1)<|AC d<|AL f<|AN))
theorem A4 (l:List GTask):∀(rest:List GTask)(i:Nat),l.drop i=rest→(∀y∈rest,ab.sm y)→jU l rest i=some .x0
 |[],i,_,_=>rfl
 |x::rest,i,a,h=>by have b:=h x (by simp);unfold jU;rw[aK a,Wy];simp only[b,W8,yes,Xl,Yd,Xq,WO,WK];exact A4 l rest (i+1) (az a) (fun y c=>h y (by simp[c]))
theorem CO {q0:Kd}{q1:Kd}(a:List GTask)(b:List GTask)(e:a=b)(h:ab.sm a):Does E 106 [.one (Wx 5 (a.map (Wj q0))),.one (Wx 5 (b.map (Wj q1)))] [Wp (yes a b)]:=by subst e;exact Nx a a _ (by unfold w6;rw[Wz (cK h),A4 a a 0 rfl h.2];simp[yes])
noncomputable def BF (a b:GDag):Option (Bool):=cond (!(a.f0.toList==b.f0.toList)) (some (false)) (cond (!(a.f1.toList==b.f1.toList)) (some (false)) (cond (a.f2 != b.f2) (some (false)) (cond (a.f3 != b.f3) (some (false)) (cond (!(a.f4==b.f4)) (some (false)) (if a.f5=b.f5 then if ab.sm a.f5 then cond (yes a.f5 b.f5) (some (true)) (some (false))else none else none)))))
theorem RK {q0:Kd}{q1:Kd}(b c:GDag):Ans (BF b c) (fun r=>Does E 85 [.agg (Wc .far q0 b),.agg (Wc .far q1 c)] [Wp r]):=by
 unfold BF;apply V4<;>intro a
 ·exact VZ (DP Tryz.f85 [.b true] (AC a<|AN))
 ·apply V4<;>intro d
  ·exact VZ (DP Tryz.f85 [.b false,.b true] (AC a<|AC d<|AN))
  ·apply V4<;>intro e
   ·exact VZ (DP Tryz.f85 [.b false,.b false,.b true] (AC a<|AC d<|AC e<|AN))
   ·apply V4<;>intro f
    ·exact VZ (DP Tryz.f85 [.b false,.b false,.b false,.b true] (AC a<|AC d<|AC e<|AC f<|AN))
    ·apply V4<;>intro g
     ·exact VZ (DP Tryz.f85 [.b false,.b false,.b false,.b false,.b true] (AC a<|AC d<|AC e<|AC f<|AC g<|AN))
     ·apply V6;intro h;apply V6;intro i;apply V4<;>intro j
      ·exact VZ (DP Tryz.f85 [.b false,.b false,.b false,.b false,.b false,rT] (AC a<|AC d<|AC e<|AC f<|AC g<|AV (ψ:=fun k=>E.C k 106 [.one (Wx 5 (b.f5.map (Wj q0))),.one (Wx 5 (c.f5.map (Wj q1)))]=some [Wp true]) (V7 (CO b.f5 c.f5 h i) (by rw[j]))<|AN))
      ·exact VZ (DP Tryz.f85 [.b false,.b false,.b false,.b false,.b false,rF] (AC a<|AC d<|AC e<|AC f<|AC g<|AV (ψ:=fun k=>E.C k 106 [.one (Wx 5 (b.f5.map (Wj q0))),.one (Wx 5 (c.f5.map (Wj q1)))]=some [Wp false]) (V7 (CO b.f5 c.f5 h i) (by rw[j]))<|AN))
theorem sO {q0:Kd}{q1:Kd}(a:GDag)(b:GDag)(e:a=b)(h:ab.sm a):Does E 85 [.agg (Wc .far q0 a),.agg (Wc .far q1 b)] [Wp (yes a b)]:=by subst e;obtain⟨w0,d,c⟩:=h;exact RK a a _ (by unfold BF;simp only[c,W8,yes,Xl,Yd,Xq,WO,WK])
noncomputable def zj (a b:GPlan):Option (Bool):=if a.f0=b.f0 then if ab.sm a.f0 then cond (yes a.f0 b.f0) (cond (!(a.f1==b.f1)) (some (false)) (cond (a.f2 != b.f2) (some (false)) (cond (a.f3 != b.f3) (some (false)) (some (true))))) (some (false))else none else none
theorem P5 {q0:Kd}{q1:Kd}(a b:GPlan):Ans (zj a b) (fun r=>Does E 55 [.agg (Wd .far q0 a),.agg (Wd .far q1 b)] [Wp r]):=by
 unfold zj;apply V6;intro c;apply V6;intro d;apply V4<;>intro e
 ·apply V4<;>intro f
  ·exact VZ (DP Tryz.f55 [rT,.b true] (AV (ψ:=fun k=>E.C k 85 [.agg (Wc .far q0 a.f0),.agg (Wc .far q1 b.f0)]=some [Wp true]) (V7 (sO a.f0 b.f0 c d) (by rw[e]))<|AC f<|AN))
  ·apply V4<;>intro g
   ·exact VZ (DP Tryz.f55 [rT,.b false,.b true] (AV (ψ:=fun k=>E.C k 85 [.agg (Wc .far q0 a.f0),.agg (Wc .far q1 b.f0)]=some [Wp true]) (V7 (sO a.f0 b.f0 c d) (by rw[e]))<|AC f<|AC g<|AN))
   ·apply V4<;>intro h
    ·exact VZ (DP Tryz.f55 [rT,.b false,.b false,.b true] (AV (ψ:=fun k=>E.C k 85 [.agg (Wc .far q0 a.f0),.agg (Wc .far q1 b.f0)]=some [Wp true]) (V7 (sO a.f0 b.f0 c d) (by rw[e]))<|AC f<|AC g<|AC h<|AN))
    ·exact VZ (DP Tryz.f55 [rT,.b false,.b false,.b false] (AV (ψ:=fun k=>E.C k 85 [.agg (Wc .far q0 a.f0),.agg (Wc .far q1 b.f0)]=some [Wp true]) (V7 (sO a.f0 b.f0 c d) (by rw[e]))<|AC f<|AC g<|AC h<|AN))
 ·exact VZ (DP Tryz.f55 [rF] (AV (ψ:=fun k=>E.C k 85 [.agg (Wc .far q0 a.f0),.agg (Wc .far q1 b.f0)]=some [Wp false]) (V7 (sO a.f0 b.f0 c d) (by rw[e]))<|AN))
theorem Ew {q0:Kd}{q1:Kd}(a:GPlan)(b:GPlan)(e:a=b)(h:ab.sm a):Does E 55 [.agg (Wd .far q0 a),.agg (Wd .far q1 b)] [Wp (yes a b)]:=by subst e;have w0:ab.sm a.f0:=h;exact P5 a a _ (by unfold zj;simp only[w0,W8,yes,Xl,Yd,Xq,WO,WK])
inductive BG where|ret (v4:Bool)|x0
def ld (q0:Kd)(q1:Kd)(v0 v1:List GPlan)(v5:Int):US:=stL 27 [(0,.one (Wx 9 (v0.map (Wd q0 q0)))),(1,.one (Wx 9 (v1.map (Wd q1 q1)))),(5,Wr v5)]
def qK (q0:Kd)(q1:Kd)(a:Bool):US:=stL 27 [(4,Ws a)]
def rD (q0:Kd)(q1:Kd)  : US:=stL 27 []
abbrev uW:US→Exit→US→Prop:=Round E 25 (aq Tryz.f25 0)
def K9 {q0:Kd}{q1:Kd}(v0 v1:List GPlan)(v5:Int):BG→Prop| .ret a=>Loops E 25 (aq Tryz.f25 0) (ld q0 q1 v0 v1 v5) .ret (qK q0 q1 a)| .x0=>Loops E 25 (aq Tryz.f25 0) (ld q0 q1 v0 v1 v5) (.exit 0) (rD q0 q1)
noncomputable def jT (v1:List GPlan):List GPlan→Nat→Option BG|[],i=>some (.x0)|hd::rest,i=>(ar v1 (i:Int)).bind fun g1=>if hd=g1 then if ab.sm hd then cond (yes hd g1) (jT v1 rest (i+1)) (some (.ret false))else none else none
theorem K8 {q0:Kd}{q1:Kd}(v0 v1:List GPlan)(rest:List GPlan):∀(i:Nat) ,(v0).drop i=rest→v0.length≤9223372036854775807→Ans (jT v1 rest i) (K9 (q0:=q0) (q1:=q1) v0 v1 (i:Int)):=by
 induction rest with
 |nil =>intro i a b;have hb:=aP a;unfold jT;exact VZ (V3 (show uW (ld q0 q1 v0 v1 (i:Int)) (.exit 0) (rD q0 q1)from RP [Wu (v0.length:Int),.b false] (ALn v0 (Wd q0 q0)<|AC hb<|AN)))
 |cons hd rest j =>
  intro i a b;have hb:=aI a;have l:=aJ a b;have c:=az a;have d:=aK a;unfold jT;apply V5;intro g1 e;apply V6;intro f;apply V6;intro g;apply V4<;>intro h
  ·exact(j (i+1) c b).mono fun y m=>by have r:uW (ld q0 q1 v0 v1 (i:Int)) .normal (ld q0 q1 v0 v1 (inc (i:Int))):=RP [Wu (v0.length:Int),.b true,.row ((Wd q0 q0) hd),.row ((Wd q1 q1) g1),rT] (ALn v0 (Wd q0 q0)<|AC hb<|AR (Wd q0 q0) d<|AR (Wd q1 q1) e<|AV (ψ:=fun k=>E.C k 55 [.agg (Wd .far q0 hd),.agg (Wd .far q1 g1)]=some [Wp true]) (V7 (Ew hd g1 f g) (by rw[h]))<|AN);rw[l]at r;cases y<;>exact V2 r m
  ·exact VZ (V3 (show uW (ld q0 q1 v0 v1 (i:Int)) .ret (qK q0 q1 false)from RP [Wu (v0.length:Int),.b true,.row ((Wd q0 q0) hd),.row ((Wd q1 q1) g1),rF] (ALn v0 (Wd q0 q0)<|AC hb<|AR (Wd q0 q0) d<|AR (Wd q1 q1) e<|AV (ψ:=fun k=>E.C k 55 [.agg (Wd .far q0 hd),.agg (Wd .far q1 g1)]=some [Wp false]) (V7 (Ew hd g1 f g) (by rw[h]))<|AN)))
noncomputable def wX (b c:List GPlan):Option (Bool):=
  cond ((b.length:Int) != (c.length:Int))
   (some (false))
   (if b.length≤9223372036854775807 then(jT c b 0).bind fun y=>match y with
    | .ret a=>(some (a))
    | .x0=>(some (true))else none)
theorem Nt {q0:Kd}{q1:Kd}(x0 a:List GPlan):Ans (wX x0 a) (fun r=>Does E 25 [.one (Wx 9 (x0.map (Wd q0 q0))),.one (Wx 9 (a.map (Wd q1 q1)))] [Wp r]):=by
 unfold wX;apply V4<;>intro d
 ·exact VZ (DP Tryz.f25 [Wu (x0.length:Int),Wu (a.length:Int),.b true] (ALn x0 (Wd q0 q0)<|ALn a (Wd q1 q1)<|AC d<|AN))
 ·apply V6;intro e;apply V5;intro y c;replace c:=K8 (q0:=q0) (q1:=q1) x0 a x0 0 rfl e y c;cases y with
  |ret b =>have f:=c;exact VZ (DP Tryz.f25 [Wu (x0.length:Int),Wu (a.length:Int),.b false,.lp .ret (qK q0 q1 b)] (ALn x0 (Wd q0 q0)<|ALn a (Wd q1 q1)<|AC d<|AL f<|AN))
  |x0 =>have f:=c;exact VZ (DP Tryz.f25 [Wu (x0.length:Int),Wu (a.length:Int),.b false,.lp (.exit 0) (rD q0 q1)] (ALn x0 (Wd q0 q0)<|ALn a (Wd q1 q1)<|AC d<|AL f<|AN))
theorem A3 (l:List GPlan):∀(rest:List GPlan)(i:Nat),l.drop i=rest→(∀y∈rest,ab.sm y)→jT l rest i=some .x0
 |[],i,_,_=>rfl
 |x::rest,i,a,h=>by have b:=h x (by simp);unfold jT;rw[aK a,Wy];simp only[b,W8,yes,Xl,Yd,Xq,WO,WK];exact A3 l rest (i+1) (az a) (fun y c=>h y (by simp[c]))
theorem oK {q0:Kd}{q1:Kd}(a:List GPlan)(b:List GPlan)(e:a=b)(h:ab.sm a):Does E 25 [.one (Wx 9 (a.map (Wd q0 q0))),.one (Wx 9 (b.map (Wd q1 q1)))] [Wp (yes a b)]:=by subst e;exact Nt a a _ (by unfold wX;rw[Wz (cK h),A3 a a 0 rfl h.2];simp[yes])
noncomputable def zl (a b:GSpan):Option (Bool):=cond (a.f0 != b.f0) (some (false)) (cond (a.f1 != b.f1) (some (false)) (some (true)))
theorem P7 (b c:GSpan):Ans (zl b c) (fun r=>Does E 86 [.agg (Wh b),.agg (Wh c)] [Wp r]):=by
 unfold zl;apply V4<;>intro a
 ·exact VZ (DP Tryz.f86 [.b true] (AC a<|AN))
 ·apply V4<;>intro d
  ·exact VZ (DP Tryz.f86 [.b false,.b true] (AC a<|AC d<|AN))
  ·exact VZ (DP Tryz.f86 [.b false,.b false] (AC a<|AC d<|AN))
theorem tZ (a:GSpan)(b:GSpan)(e:a=b)(h:ab.sm a):Does E 86 [.agg (Wh a),.agg (Wh b)] [Wp (yes a b)]:=by
 subst e
 skip
 exact P7 a a _ (by unfold zl;simp only[W8,yes,Xl,Yd,Xq,WO,WK])
noncomputable def wZ (a b:GState):Option (Bool):=cond (a.f0 != b.f0) (some (false)) (cond (a.f1 != b.f1) (some (false)) (cond (a.f2 != b.f2) (some (false)) (cond (a.f3 != b.f3) (some (false)) (some (true)))))
theorem Nw (d e:GState):Ans (wZ d e) (fun r=>Does E 107 [.agg (Wi d),.agg (Wi e)] [Wp r]):=by
 unfold wZ;apply V4<;>intro a
 ·exact VZ (DP Tryz.f107 [.b true] (AC a<|AN))
 ·apply V4<;>intro b
  ·exact VZ (DP Tryz.f107 [.b false,.b true] (AC a<|AC b<|AN))
  ·apply V4<;>intro c
   ·exact VZ (DP Tryz.f107 [.b false,.b false,.b true] (AC a<|AC b<|AC c<|AN))
   ·apply V4<;>intro f
    ·exact VZ (DP Tryz.f107 [.b false,.b false,.b false,.b true] (AC a<|AC b<|AC c<|AC f<|AN))
    ·exact VZ (DP Tryz.f107 [.b false,.b false,.b false,.b false] (AC a<|AC b<|AC c<|AC f<|AN))
theorem CN (a:GState)(b:GState)(e:a=b)(h:ab.sm a):Does E 107 [.agg (Wi a),.agg (Wi b)] [Wp (yes a b)]:=by
 subst e
 skip
 exact Nw a a _ (by unfold wZ;simp only[W8,yes,Xl,Yd,Xq,WO,WK])
inductive z8 where|ret (v4:Bool)|x0
def kb (v0 v1:List GState)(v5:Int):US:=stL 27 [(0,.one (Wx 4 (v0.map Wi))),(1,.one (Wx 4 (v1.map Wi))),(5,Wr v5)]
def pG (a:Bool):US:=stL 27 [(4,Ws a)]
def qM  : US:=stL 27 []
abbrev tp:US→Exit→US→Prop:=Round E 87 (aq Tryz.f87 0)
def IQ (v0 v1:List GState)(v5:Int):z8→Prop| .ret a=>Loops E 87 (aq Tryz.f87 0) (kb v0 v1 v5) .ret (pG a)| .x0=>Loops E 87 (aq Tryz.f87 0) (kb v0 v1 v5) (.exit 0) (qM)
noncomputable def i8 (v1:List GState):List GState→Nat→Option z8|[],i=>some (.x0)|hd::rest,i=>(ar v1 (i:Int)).bind fun g1=>if hd=g1 then if ab.sm hd then cond (yes hd g1) (i8 v1 rest (i+1)) (some (.ret false))else none else none
theorem IP (v0 v1:List GState)(rest:List GState):∀(i:Nat) ,(v0).drop i=rest→v0.length≤9223372036854775807→Ans (i8 v1 rest i) (IQ v0 v1 (i:Int)):=by
 induction rest with
 |nil =>intro i a b;have hb:=aP a;unfold i8;exact VZ (V3 (show tp (kb v0 v1 (i:Int)) (.exit 0) (qM)from RP [Wu (v0.length:Int),.b false] (ALn v0 Wi<|AC hb<|AN)))
 |cons hd rest j =>
  intro i a b;have hb:=aI a;have k:=aJ a b;have c:=az a;have d:=aK a;unfold i8;apply V5;intro g1 e;apply V6;intro f;apply V6;intro g;apply V4<;>intro h
  ·exact(j (i+1) c b).mono fun y l=>by have r:tp (kb v0 v1 (i:Int)) .normal (kb v0 v1 (inc (i:Int))):=RP [Wu (v0.length:Int),.b true,.row (Wi hd),.row (Wi g1),rT] (ALn v0 Wi<|AC hb<|AR Wi d<|AR Wi e<|AD (V9 (CN hd g1 f g) h)<|AN);rw[k]at r;cases y<;>exact V2 r l
  ·exact VZ (V3 (show tp (kb v0 v1 (i:Int)) .ret (pG false)from RP [Wu (v0.length:Int),.b true,.row (Wi hd),.row (Wi g1),rF] (ALn v0 Wi<|AC hb<|AR Wi d<|AR Wi e<|AD (V9 (CN hd g1 f g) h)<|AN)))
noncomputable def uX (b c:List GState):Option (Bool):=
  cond ((b.length:Int) != (c.length:Int))
   (some (false))
   (if b.length≤9223372036854775807 then(i8 c b 0).bind fun y=>match y with
    | .ret a=>(some (a))
    | .x0=>(some (true))else none)
theorem La (x0 a:List GState):Ans (uX x0 a) (fun r=>Does E 87 [.one (Wx 4 (x0.map Wi)),.one (Wx 4 (a.map Wi))] [Wp r]):=by
 unfold uX;apply V4<;>intro d
 ·exact VZ (DP Tryz.f87 [Wu (x0.length:Int),Wu (a.length:Int),.b true] (ALn x0 Wi<|ALn a Wi<|AC d<|AN))
 ·apply V6;intro e;apply V5;intro y c;replace c:=IP x0 a x0 0 rfl e y c;cases y with
  |ret b =>have f:=c;exact VZ (DP Tryz.f87 [Wu (x0.length:Int),Wu (a.length:Int),.b false,.lp .ret (pG b)] (ALn x0 Wi<|ALn a Wi<|AC d<|AL f<|AN))
  |x0 =>have f:=c;exact VZ (DP Tryz.f87 [Wu (x0.length:Int),Wu (a.length:Int),.b false,.lp (.exit 0) (qM)] (ALn x0 Wi<|ALn a Wi<|AC d<|AL f<|AN))
theorem zW (l:List GState):∀(rest:List GState)(i:Nat),l.drop i=rest→(∀y∈rest,ab.sm y)→i8 l rest i=some .x0
 |[],i,_,_=>rfl
 |x::rest,i,a,h=>by have b:=h x (by simp);unfold i8;rw[aK a,Wy];simp only[b,W8,yes,Xl,Yd,Xq,WO,WK];exact zW l rest (i+1) (az a) (fun y c=>h y (by simp[c]))
theorem AM (a:List GState)(b:List GState)(e:a=b)(h:ab.sm a):Does E 87 [.one (Wx 4 (a.map Wi)),.one (Wx 4 (b.map Wi))] [Wp (yes a b)]:=by subst e;exact La a a _ (by unfold uX;rw[Wz (cK h),zW a a 0 rfl h.2];simp[yes])
noncomputable def BH (a b:GRun):Option (Bool):=cond (!(a.f0.toList==b.f0.toList)) (some (false)) (if a.f1=b.f1 then if ab.sm a.f1 then cond (yes a.f1 b.f1) (cond (a.f2 != b.f2) (some (false)) (if a.f3=b.f3 then if ab.sm a.f3 then cond (yes a.f3 b.f3) (some (true)) (some (false))else none else none)) (some (false))else none else none)
theorem RL (a b:GRun):Ans (BH a b) (fun r=>Does E 56 [.agg (We .far a),.agg (We .far b)] [Wp r]):=by
 unfold BH;apply V4<;>intro c
 ·exact VZ (DP Tryz.f56 [.b true] (AC c<|AN))
 ·apply V6;intro d;apply V6;intro e;apply V4<;>intro f
  ·apply V4<;>intro g
   ·exact VZ (DP Tryz.f56 [.b false,rT,.b true] (AC c<|AD (V9 (tZ a.f1 b.f1 d e) f)<|AC g<|AN))
   ·apply V6;intro h;apply V6;intro i;apply V4<;>intro j
    ·exact VZ (DP Tryz.f56 [.b false,rT,.b false,rT] (AC c<|AD (V9 (tZ a.f1 b.f1 d e) f)<|AC g<|AD (V9 (AM a.f3 b.f3 h i) j)<|AN))
    ·exact VZ (DP Tryz.f56 [.b false,rT,.b false,rF] (AC c<|AD (V9 (tZ a.f1 b.f1 d e) f)<|AC g<|AD (V9 (AM a.f3 b.f3 h i) j)<|AN))
  ·exact VZ (DP Tryz.f56 [.b false,rF] (AC c<|AD (V9 (tZ a.f1 b.f1 d e) f)<|AN))
theorem HQ (a:GRun)(b:GRun)(e:a=b)(h:ab.sm a):Does E 56 [.agg (We .far a),.agg (We .far b)] [Wp (yes a b)]:=by subst e;obtain⟨w0,c,d⟩:=h;exact RL a a _ (by unfold BH;simp only[c,d,W8,yes,Xl,Yd,Xq,WO,WK])
inductive C9 where|ret (v4:Bool)|x0
def mq (q0:Kd)(q1:Kd)(v0 v1:List GRun)(v5:Int):US:=stL 27 [(0,.one (Wx 5 (v0.map (We q0)))),(1,.one (Wx 5 (v1.map (We q1)))),(5,Wr v5)]
def rE (q0:Kd)(q1:Kd)(a:Bool):US:=stL 27 [(4,Ws a)]
def tj (q0:Kd)(q1:Kd)  : US:=stL 27 []
abbrev wY:US→Exit→US→Prop:=Round E 26 (aq Tryz.f26 0)
def Nv {q0:Kd}{q1:Kd}(v0 v1:List GRun)(v5:Int):C9→Prop| .ret a=>Loops E 26 (aq Tryz.f26 0) (mq q0 q1 v0 v1 v5) .ret (rE q0 q1 a)| .x0=>Loops E 26 (aq Tryz.f26 0) (mq q0 q1 v0 v1 v5) (.exit 0) (tj q0 q1)
noncomputable def kN (v1:List GRun):List GRun→Nat→Option C9|[],i=>some (.x0)|hd::rest,i=>(ar v1 (i:Int)).bind fun g1=>if hd=g1 then if ab.sm hd then cond (yes hd g1) (kN v1 rest (i+1)) (some (.ret false))else none else none
theorem Nu {q0:Kd}{q1:Kd}(v0 v1:List GRun)(rest:List GRun):∀(i:Nat) ,(v0).drop i=rest→v0.length≤9223372036854775807→Ans (kN v1 rest i) (Nv (q0:=q0) (q1:=q1) v0 v1 (i:Int)):=by
 induction rest with
 |nil =>intro i a b;have hb:=aP a;unfold kN;exact VZ (V3 (show wY (mq q0 q1 v0 v1 (i:Int)) (.exit 0) (tj q0 q1)from RP [Wu (v0.length:Int),.b false] (ALn v0 (We q0)<|AC hb<|AN)))
 |cons hd rest j =>
  intro i a b;have hb:=aI a;have k:=aJ a b;have c:=az a;have d:=aK a;unfold kN;apply V5;intro g1 e;apply V6;intro f;apply V6;intro g;apply V4<;>intro h
  ·exact(j (i+1) c b).mono fun y l=>by have r:wY (mq q0 q1 v0 v1 (i:Int)) .normal (mq q0 q1 v0 v1 (inc (i:Int))):=RP [Wu (v0.length:Int),.b true,.row ((We q0) hd),.row ((We q1) g1),rT] (ALn v0 (We q0)<|AC hb<|AR (We q0) d<|AR (We q1) e<|AD (V9 (HQ hd g1 f g) h)<|AN);rw[k]at r;cases y<;>exact V2 r l
  ·exact VZ (V3 (show wY (mq q0 q1 v0 v1 (i:Int)) .ret (rE q0 q1 false)from RP [Wu (v0.length:Int),.b true,.row ((We q0) hd),.row ((We q1) g1),rF] (ALn v0 (We q0)<|AC hb<|AR (We q0) d<|AR (We q1) e<|AD (V9 (HQ hd g1 f g) h)<|AN)))
noncomputable def zk (b c:List GRun):Option (Bool):=
  cond ((b.length:Int) != (c.length:Int))
   (some (false))
   (if b.length≤9223372036854775807 then(kN c b 0).bind fun y=>match y with
    | .ret a=>(some (a))
    | .x0=>(some (true))else none)
theorem P6 {q0:Kd}{q1:Kd}(x0 a:List GRun):Ans (zk x0 a) (fun r=>Does E 26 [.one (Wx 5 (x0.map (We q0))),.one (Wx 5 (a.map (We q1)))] [Wp r]):=by
 unfold zk;apply V4<;>intro d
 ·exact VZ (DP Tryz.f26 [Wu (x0.length:Int),Wu (a.length:Int),.b true] (ALn x0 (We q0)<|ALn a (We q1)<|AC d<|AN))
 ·apply V6;intro e;apply V5;intro y c;replace c:=Nu (q0:=q0) (q1:=q1) x0 a x0 0 rfl e y c;cases y with
  |ret b =>have f:=c;exact VZ (DP Tryz.f26 [Wu (x0.length:Int),Wu (a.length:Int),.b false,.lp .ret (rE q0 q1 b)] (ALn x0 (We q0)<|ALn a (We q1)<|AC d<|AL f<|AN))
  |x0 =>have f:=c;exact VZ (DP Tryz.f26 [Wu (x0.length:Int),Wu (a.length:Int),.b false,.lp (.exit 0) (tj q0 q1)] (ALn x0 (We q0)<|ALn a (We q1)<|AC d<|AL f<|AN))
theorem CY (l:List GRun):∀(rest:List GRun)(i:Nat),l.drop i=rest→(∀y∈rest,ab.sm y)→kN l rest i=some .x0
 |[],i,_,_=>rfl
 |x::rest,i,a,h=>by have b:=h x (by simp);unfold kN;rw[aK a,Wy];simp only[b,W8,yes,Xl,Yd,Xq,WO,WK];exact CY l rest (i+1) (az a) (fun y c=>h y (by simp[c]))
theorem tX {q0:Kd}{q1:Kd}(a:List GRun)(b:List GRun)(e:a=b)(h:ab.sm a):Does E 26 [.one (Wx 5 (a.map (We q0))),.one (Wx 5 (b.map (We q1)))] [Wp (yes a b)]:=by subst e;exact P6 a a _ (by unfold zk;rw[Wz (cK h),CY a a 0 rfl h.2];simp[yes])
noncomputable def wW (a b:GBoard):Option (Bool):=if a.f0=b.f0 then if ab.sm a.f0 then cond (yes a.f0 b.f0) (if a.f1=b.f1 then if ab.sm a.f1 then cond (yes a.f1 b.f1) (if a.f2=b.f2 then if ab.sm a.f2 then cond (yes a.f2 b.f2) (cond (a.f3 != b.f3) (some (false)) (cond (a.f4 != b.f4) (some (false)) (some (true)))) (some (false))else none else none) (some (false))else none else none) (some (false))else none else none
theorem Ns {q0:Kd}{q1:Kd}(a b:GBoard):Ans (wW a b) (fun r=>Does E 8 [.agg (Wa .far q0 a),.agg (Wa .far q1 b)] [Wp r]):=by
 unfold wW;apply V6;intro c;apply V6;intro d;apply V4<;>intro e
 ·apply V6;intro f;apply V6;intro g;apply V4<;>intro h
  ·apply V6;intro j;apply V6;intro l;apply V4<;>intro m
   ·apply V4<;>intro n
    ·exact VZ (DP Tryz.f8 [rT,rT,rT,.b true] (AD (V9 (jC a.f0 b.f0 c d) e)<|AV (ψ:=fun k=>E.C k 25 [.one (Wx 9 (a.f1.map (Wd q0 q0))),.one (Wx 9 (b.f1.map (Wd q1 q1)))]=some [Wp true]) (V7 (oK a.f1 b.f1 f g) (by rw[h]))<|AV (ψ:=fun k=>E.C k 26 [.one (Wx 5 (a.f2.map (We q0))),.one (Wx 5 (b.f2.map (We q1)))]=some [Wp true]) (V7 (tX a.f2 b.f2 j l) (by rw[m]))<|AC n<|AN))
    ·apply V4<;>intro i
     ·exact VZ (DP Tryz.f8 [rT,rT,rT,.b false,.b true] (AD (V9 (jC a.f0 b.f0 c d) e)<|AV (ψ:=fun k=>E.C k 25 [.one (Wx 9 (a.f1.map (Wd q0 q0))),.one (Wx 9 (b.f1.map (Wd q1 q1)))]=some [Wp true]) (V7 (oK a.f1 b.f1 f g) (by rw[h]))<|AV (ψ:=fun k=>E.C k 26 [.one (Wx 5 (a.f2.map (We q0))),.one (Wx 5 (b.f2.map (We q1)))]=some [Wp true]) (V7 (tX a.f2 b.f2 j l) (by rw[m]))<|AC n<|AC i<|AN))
     ·exact VZ (DP Tryz.f8 [rT,rT,rT,.b false,.b false] (AD (V9 (jC a.f0 b.f0 c d) e)<|AV (ψ:=fun k=>E.C k 25 [.one (Wx 9 (a.f1.map (Wd q0 q0))),.one (Wx 9 (b.f1.map (Wd q1 q1)))]=some [Wp true]) (V7 (oK a.f1 b.f1 f g) (by rw[h]))<|AV (ψ:=fun k=>E.C k 26 [.one (Wx 5 (a.f2.map (We q0))),.one (Wx 5 (b.f2.map (We q1)))]=some [Wp true]) (V7 (tX a.f2 b.f2 j l) (by rw[m]))<|AC n<|AC i<|AN))
   ·exact VZ (DP Tryz.f8 [rT,rT,rF] (AD (V9 (jC a.f0 b.f0 c d) e)<|AV (ψ:=fun k=>E.C k 25 [.one (Wx 9 (a.f1.map (Wd q0 q0))),.one (Wx 9 (b.f1.map (Wd q1 q1)))]=some [Wp true]) (V7 (oK a.f1 b.f1 f g) (by rw[h]))<|AV (ψ:=fun k=>E.C k 26 [.one (Wx 5 (a.f2.map (We q0))),.one (Wx 5 (b.f2.map (We q1)))]=some [Wp false]) (V7 (tX a.f2 b.f2 j l) (by rw[m]))<|AN))
  ·exact VZ (DP Tryz.f8 [rT,rF] (AD (V9 (jC a.f0 b.f0 c d) e)<|AV (ψ:=fun k=>E.C k 25 [.one (Wx 9 (a.f1.map (Wd q0 q0))),.one (Wx 9 (b.f1.map (Wd q1 q1)))]=some [Wp false]) (V7 (oK a.f1 b.f1 f g) (by rw[h]))<|AN))
 ·exact VZ (DP Tryz.f8 [rF] (AD (V9 (jC a.f0 b.f0 c d) e)<|AN))
theorem cL {q0:Kd}{q1:Kd}(a:GBoard)(b:GBoard)(e:a=b)(h:ab.sm a):Does E 8 [.agg (Wa .far q0 a),.agg (Wa .far q1 b)] [Wp (yes a b)]:=by subst e;obtain⟨w0,c,d⟩:=h;exact Ns a a _ (by unfold wW;simp only[w0,c,d,W8,yes,Xl,Yd,Xq,WO,WK])
end
end Go.Proofs.YtlgddjncnedkgaaGreatDoor.Am
