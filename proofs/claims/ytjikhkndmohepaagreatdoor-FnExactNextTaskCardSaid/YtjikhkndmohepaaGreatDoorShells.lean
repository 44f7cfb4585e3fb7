/- What the functions that measure, copy and compare boards do. -/
import Derived.Test.YtjikhkndmohepaaGreatDoorPlans
namespace Go.Proofs.YtjikhkndmohepaaGreatDoor.Am
open Go
set_option linter.unusedVariables false
set_option linter.unusedSimpArgs false
section
open Go.Proofs Classical
set_option maxRecDepth 100000
noncomputable def jT (a:GSession)(b:Int):Option (Int):=cond (decide ((IntKind.wrap .i64 (b-(a.f2.size:Int)))<(0:Int))) (some ((-1:Int))) (some (IntKind.wrap .i64 (b-(a.f2.size:Int))))
theorem HZ (a:GSession)(b:Int):Ans (jT a b) (fun r=>Does E 22 [.agg (VN a),V2 b] [VX r]):=by
 unfold jT;apply VC<;>intro c
 ·exact Vz (DP Tryz.f22 [.no,.b true] (AC c<|AN))
 ·exact Vz (DP Tryz.f22 [.no,.b false] (AC c<|AN))
noncomputable def da (x:GSession)(n:Int):Int:=(jT x n).getD (-1)
theorem vN (x:GSession)(n:Int)(h:Wf.wf x):jT x n=some (da x n):=by have a:Wf.wf x.f2:=h;refine Tot.getD ?_ _;unfold jT;repeat' (first|exact Tot.some _|apply Tot.cond|refine Tot.ite (by assumption) ?_)
theorem yI (a:GSession)(b:Int)(h:Wf.wf a):Does E 22 [.agg (VN a),V2 b] [VX (da a b)]:=by exact HZ a b _ (vN a b h)
theorem FG (x:GSession)(n:Int)(a:Wf.wf x)(b:0≤n)(g:n≤1048576)(h:0≤da x n):da x n≤n∧ab.sm x:=by have e:=vN x n a;have c:Wf.wf x.f2:=a;generalize da x n=r at *;unfold jT at e;obtain⟨d,e⟩:=gj e h;obtain⟨i,f⟩:=nO (n:=n) (k:=x.f2.size) b (by omega) c d;generalize IntKind.wrap .i64 (n-(x.f2.size:Int))=j at *;cases e;exact⟨by omega,gJ f⟩
inductive vD where|ret (v4:Int)|x0 (v1:Int)
def iA (v0:List GSession)(v1 v5:Int):US:=stL 27 [(0,.one (V8 3 (v0.map VN))),(1,V2 v1),(5,V2 v5)]
def mQ (a:Int):US:=stL 27 [(4,V2 a)]
def nZ (a:Int):US:=stL 27 [(1,V2 a)]
abbrev qu:US→Exit→US→Prop:=Round E 9 (an Tryz.f9 0)
def En (v0:List GSession)(v1 v5:Int):vD→Prop| .ret a=>Loops E 9 (an Tryz.f9 0) (iA v0 v1 v5) .ret (mQ a)| .x0 b=>Loops E 9 (an Tryz.f9 0) (iA v0 v1 v5) (.exit 0) (nZ b)
noncomputable def dX  : List GSession→Nat→Int→Option vD|[],i,v1=>some (.x0 v1)|hd::rest,i,v1=>if Wf.wf hd then cond (decide ((da hd v1)<(0:Int))) (some (.ret (-1:Int))) (dX rest (i+1) (da hd v1))else none
theorem Em (v0:List GSession)(rest:List GSession):∀(i:Nat)(v1:Int),(v0).drop i=rest→v0.length≤9223372036854775807→Ans (dX rest i v1) (En v0 v1 (i:Int)):=by
 induction rest with
 |nil =>intro i v1 a b;have hb:=aK a;unfold dX;exact Vz (VB (show qu (iA v0 v1 (i:Int)) (.exit 0) (nZ v1)from RP [V5 (v0.length:Int),.b false] (ALn v0 VN<|AC hb<|AN)) (by intro h;cases h))
 |cons hd rest g =>
  intro i v1 a b;have hb:=aF a;have j:=aG a b;have c:=au a;have d:=aE a;unfold dX;apply VE;intro e;apply VC<;>intro f
  ·exact Vz (VB (show qu (iA v0 v1 (i:Int)) .ret (mQ (-1:Int))from RP [V5 (v0.length:Int),.b true,.row (VN hd),.ret [VX (da hd v1)],.b true] (ALn v0 VN<|AC hb<|AR VN d<|AD (yI hd v1 e)<|AC f<|AN)) (by intro h;cases h))
  ·exact(g (i+1) (da hd v1) c b).mono fun y k=>by have r:qu (iA v0 v1 (i:Int)) .normal (iA v0 (da hd v1) (inc (i:Int))):=RP [V5 (v0.length:Int),.b true,.row (VN hd),.ret [VX (da hd v1)],.b false] (ALn v0 VN<|AC hb<|AR VN d<|AD (yI hd v1 e)<|AC f<|AN);rw[j]at r;cases y<;>exact VA r k
noncomputable def jn (c:List GSession)(d:Int):Option (Int):=
  cond (decide ((IntKind.wrap .i64 (d-(c.length:Int)))<(0:Int)))
   (some ((-1:Int)))
   (if c.length≤9223372036854775807 then(dX c 0 (IntKind.wrap .i64 (d-(c.length:Int)))).bind fun y=>match y with
    | .ret a=>(some (a))
    | .x0 b=>(some (b))else none)
theorem FA (x0:List GSession)(d:Int):Ans (jn x0 d) (fun r=>Does E 9 [.one (V8 3 (x0.map VN)),V2 d] [VX r]):=by
 unfold jn;apply VC<;>intro e
 ·exact Vz (DP Tryz.f9 [V5 (x0.length:Int),.no,.b true] (ALn x0 VN<|AC e<|AN))
 ·apply VE;intro f;apply VD;intro y c;replace c:=Em x0 x0 0 (IntKind.wrap .i64 (d-(x0.length:Int))) rfl f y c;cases y with
  |ret a =>have g:=c;exact Vz (DP Tryz.f9 [V5 (x0.length:Int),.no,.b false,.lp .ret (mQ a)] (ALn x0 VN<|AC e<|AL g<|AN))
  |x0 b =>have g:=c;exact Vz (DP Tryz.f9 [V5 (x0.length:Int),.no,.b false,.lp (.exit 0) (nZ b)] (ALn x0 VN<|AC e<|AL g<|AN))
noncomputable def aI (x:List GSession)(n:Int):Int:=(jn x n).getD (-1)
theorem vM:∀(rest:List GSession)(i:Nat)(n:Int),(∀y∈rest,Wf.wf y)→Tot (dX rest i n)
 |[],i,n,_=>Tot.some _
 |x::rest,i,n,h=>by
  have c:=h x (by simp);have a:=fun i n=>vM rest i n fun y b=>h y (by simp[b])
  unfold dX;repeat' (first|exact Tot.some _|exact a _ _|apply Tot.cond|refine Tot.ite (by assumption) ?_)
theorem vc (x:List GSession)(n:Int)(h:Wf.wf x):jn x n=some (aI x n):=by refine Tot.getD ?_ _;unfold jn;refine Tot.cond (Tot.some _) ?_;refine Tot.ite h.1 (Tot.bind (vM x 0 _ h.2) fun y a=>?_);cases y<;>exact Tot.some _
theorem m7 (a:List GSession)(b:Int)(h:Wf.wf a):Does E 9 [.one (V8 3 (a.map VN)),V2 b] [VX (aI a b)]:=by exact FA a b _ (vc a b h)
theorem uL:∀(rest:List GSession)(i:Nat)(n:Int),(∀y∈rest,Wf.wf y)→0≤n→n≤1048576→∀y,dX rest i n=some y →
  (∃m,y = .x0 m∧0≤m∧m≤n∧∀z∈rest,ab.sm z)∨∃m,y = .ret m∧m<0
 |[],i,n,_,a,f,y,e=>by cases e;exact .inl ⟨n,rfl,a,Xb _,fun z hz=>by cases hz⟩
 |x::rest,i,n,h,a,f,y,e=>by
  have d:=h x (by simp);unfold dX at e;try rw[Wa d]at e
  by_cases q:da x n<0
  ·rw[Wi q,Wn]at e;cases e;exact .inr ⟨_,rfl,by omega⟩
  ·rw[Wj q,Wu]at e;try rw[Wa d]at e
   obtain⟨b,c⟩:=FG x n d a f (by omega);rcases uL rest _ _ (fun y j=>h y (by simp[j])) (by omega) (by omega) y e with⟨m,g1,k,g3,g4⟩|g
   ·refine .inl ⟨m,g1,k,by omega,fun z hz=>?_⟩;rcases WE.1 hz with rfl|hz
    ·exact c
    ·exact g4 z hz
   ·exact .inr g
theorem Eq (x:List GSession)(n:Int)(a:Wf.wf x)(d:0≤n)(f:n≤1048576)(h:0≤aI x n):aI x n≤n∧ab.sm x:=by
 have e:=vc x n a;generalize aI x n=r at *;unfold jn at e;obtain⟨b,e⟩:=gj e h;obtain⟨l,i⟩:=nO (n:=n) (k:=x.length) d f a.1 b;rw[Wa a.1,Wb]at e;obtain⟨y,j,c⟩:=e;rcases uL x 0 _ a.2 b (by omega) y j with⟨m,rfl,o,g3,g4⟩|⟨m,rfl,g⟩
 ·cases c;exact⟨by omega,gJ i,g4⟩
 ·cases c;omega
inductive xe where|ret (v4:Int)|x0 (v1:Int)
def jo (v0:List Y9)(v1 v5:Int):US:=stL 28 [(0,.one (V8 1 (v0.map etS))),(1,V2 v1),(5,V2 v5)]
def oa (a:Int):US:=stL 28 [(4,V2 a)]
def o8 (a:Int):US:=stL 28 [(1,V2 a)]
abbrev rm:US→Exit→US→Prop:=Round E 119 (an Tryz.f119 0)
def FC (v0:List Y9)(v1 v5:Int):xe→Prop| .ret a=>Loops E 119 (an Tryz.f119 0) (jo v0 v1 v5) .ret (oa a)| .x0 b=>Loops E 119 (an Tryz.f119 0) (jo v0 v1 v5) (.exit 0) (o8 b)
noncomputable def eJ  : List Y9→Nat→Int→Option xe|[],i,v1=>some (.x0 v1)|hd::rest,i,v1=>cond (decide ((IntKind.wrap .i64 (v1-(hd.size:Int)))<(0:Int))) (some (.ret (-1:Int))) (eJ rest (i+1) (IntKind.wrap .i64 (v1-(hd.size:Int))))
theorem FB (v0:List Y9)(rest:List Y9):∀(i:Nat)(v1:Int),(v0).drop i=rest→v0.length≤9223372036854775807→Ans (eJ rest i v1) (FC v0 v1 (i:Int)):=by
 induction rest with
 |nil =>intro i v1 a b;have hb:=aK a;unfold eJ;exact Vz (VB (show rm (jo v0 v1 (i:Int)) (.exit 0) (o8 v1)from RP [V5 (v0.length:Int),.b false] (ALn v0 etS<|AC hb<|AN)) (by intro h;cases h))
 |cons hd rest f =>
  intro i v1 a b;have hb:=aF a;have g:=aG a b;have c:=au a;have d:=aE a;unfold eJ;apply VC<;>intro e
  ·exact Vz (VB (show rm (jo v0 v1 (i:Int)) .ret (oa (-1:Int))from RP [V5 (v0.length:Int),.b true,.row (etS hd),.no,.b true] (ALn v0 etS<|AC hb<|AR etS d<|AC e<|AN)) (by intro h;cases h))
  ·exact(f (i+1) (IntKind.wrap .i64 (v1-(hd.size:Int))) c b).mono fun y j=>by have r:rm (jo v0 v1 (i:Int)) .normal (jo v0 (IntKind.wrap .i64 (v1-(hd.size:Int))) (inc (i:Int))):=RP [V5 (v0.length:Int),.b true,.row (etS hd),.no,.b false] (ALn v0 etS<|AC hb<|AR etS d<|AC e<|AN);rw[g]at r;cases y<;>exact VA r j
noncomputable def jU (c:List Y9)(d:Int):Option (Int):=
  cond (decide ((IntKind.wrap .i64 (d-(c.length:Int)))<(0:Int)))
   (some ((-1:Int)))
   (if c.length≤9223372036854775807 then(eJ c 0 (IntKind.wrap .i64 (d-(c.length:Int)))).bind fun y=>match y with
    | .ret a=>(some (a))
    | .x0 b=>(some (b))else none)
theorem H0 (x0:List Y9)(d:Int):Ans (jU x0 d) (fun r=>Does E 119 [.one (V8 1 (x0.map etS)),V2 d] [VX r]):=by
 unfold jU;apply VC<;>intro e
 ·exact Vz (DP Tryz.f119 [V5 (x0.length:Int),.no,.b true] (ALn x0 etS<|AC e<|AN))
 ·apply VE;intro f;apply VD;intro y c;replace c:=FB x0 x0 0 (IntKind.wrap .i64 (d-(x0.length:Int))) rfl f y c;cases y with
  |ret a =>have g:=c;exact Vz (DP Tryz.f119 [V5 (x0.length:Int),.no,.b false,.lp .ret (oa a)] (ALn x0 etS<|AC e<|AL g<|AN))
  |x0 b =>have g:=c;exact Vz (DP Tryz.f119 [V5 (x0.length:Int),.no,.b false,.lp (.exit 0) (o8 b)] (ALn x0 etS<|AC e<|AL g<|AN))
noncomputable def eD (x:List Y9)(n:Int):Int:=(jU x n).getD (-1)
theorem xw:∀(rest:List Y9)(i:Nat)(n:Int),(∀y∈rest,Wf.wf y)→Tot (eJ rest i n)
 |[],i,n,_=>Tot.some _
 |x::rest,i,n,h=>by
  have c:=h x (by simp);have a:=fun i n=>xw rest i n fun y b=>h y (by simp[b])
  unfold eJ;repeat' (first|exact Tot.some _|exact a _ _|apply Tot.cond|refine Tot.ite (by assumption) ?_)
theorem vO (x:List Y9)(n:Int)(h:Wf.wf x):jU x n=some (eD x n):=by refine Tot.getD ?_ _;unfold jU;refine Tot.cond (Tot.some _) ?_;refine Tot.ite h.1 (Tot.bind (xw x 0 _ h.2) fun y a=>?_);cases y<;>exact Tot.some _
theorem yJ (a:List Y9)(b:Int)(h:Wf.wf a):Does E 119 [.one (V8 1 (a.map etS)),V2 b] [VX (eD a b)]:=by exact H0 a b _ (vO a b h)
theorem vG:∀(rest:List Y9)(i:Nat)(n:Int),(∀y∈rest,Wf.wf y)→0≤n→n≤1048576→∀y,eJ rest i n=some y →
  (∃m,y = .x0 m∧0≤m∧m≤n∧∀z∈rest,ab.sm z)∨∃m,y = .ret m∧m<0
 |[],i,n,_,a,f,y,e=>by cases e;exact .inl ⟨n,rfl,a,Xb _,fun z hz=>by cases hz⟩
 |x::rest,i,n,h,a,f,y,e=>by
  have d:=h x (by simp);unfold eJ at e;try rw[Wa d]at e
  by_cases q:IntKind.wrap .i64 (n-(x.size:Int))<0
  ·rw[Wi q,Wn]at e;cases e;exact .inr ⟨_,rfl,by omega⟩
  ·rw[Wj q,Wu]at e;try rw[Wa d]at e
   obtain⟨b,c⟩:=nO a f d (by omega);rcases vG rest _ _ (fun y j=>h y (by simp[j])) (by omega) (by omega) y e with⟨m,g1,k,g3,g4⟩|g
   ·refine .inl ⟨m,g1,k,by omega,fun z hz=>?_⟩;rcases WE.1 hz with rfl|hz
    ·exact gJ c
    ·exact g4 z hz
   ·exact .inr g
theorem FH (x:List Y9)(n:Int)(a:Wf.wf x)(d:0≤n)(f:n≤1048576)(h:0≤eD x n):eD x n≤n∧ab.sm x:=by
 have e:=vO x n a;generalize eD x n=r at *;unfold jU at e;obtain⟨b,e⟩:=gj e h;obtain⟨l,i⟩:=nO (n:=n) (k:=x.length) d f a.1 b;rw[Wa a.1,Wb]at e;obtain⟨y,j,c⟩:=e;rcases vG x 0 _ a.2 b (by omega) y j with⟨m,rfl,o,g3,g4⟩|⟨m,rfl,g⟩
 ·cases c;exact⟨by omega,gJ i,g4⟩
 ·cases c;omega
noncomputable def nu (a:GTask)(b:Int):Option (Int):=cond (decide ((IntKind.wrap .i64 (b-(a.f0.size:Int)))<(0:Int))) (some ((-1:Int))) (cond (decide ((IntKind.wrap .i64 ((IntKind.wrap .i64 (b-(a.f0.size:Int)))-(a.f1.size:Int)))<(0:Int))) (some ((-1:Int))) (if Wf.wf a.f4 then cond (decide ((eD a.f4 (IntKind.wrap .i64 ((IntKind.wrap .i64 (b-(a.f0.size:Int)))-(a.f1.size:Int))))<(0:Int))) (some ((-1:Int))) (some (eD a.f4 (IntKind.wrap .i64 ((IntKind.wrap .i64 (b-(a.f0.size:Int)))-(a.f1.size:Int)))))else none))
theorem Pp (a:GTask)(b:Int):Ans (nu a b) (fun r=>Does E 106 [.agg (VQ .far a),V2 b] [VX r]):=by
 unfold nu;apply VC<;>intro c
 ·exact Vz (DP Tryz.f106 [.no,.b true] (AC c<|AN))
 ·apply VC<;>intro d
  ·exact Vz (DP Tryz.f106 [.no,.b false,.no,.b true] (AC c<|AC d<|AN))
  ·apply VE;intro e;apply VC<;>intro f
   ·exact Vz (DP Tryz.f106 [.no,.b false,.no,.b false,.ret [VX (eD a.f4 (IntKind.wrap .i64 ((IntKind.wrap .i64 (b-(a.f0.size:Int)))-(a.f1.size:Int))))],.b true] (AC c<|AC d<|AD (yJ a.f4 (IntKind.wrap .i64 ((IntKind.wrap .i64 (b-(a.f0.size:Int)))-(a.f1.size:Int))) e)<|AC f<|AN))
   ·exact Vz (DP Tryz.f106 [.no,.b false,.no,.b false,.ret [VX (eD a.f4 (IntKind.wrap .i64 ((IntKind.wrap .i64 (b-(a.f0.size:Int)))-(a.f1.size:Int))))],.b false] (AC c<|AC d<|AD (yJ a.f4 (IntKind.wrap .i64 ((IntKind.wrap .i64 (b-(a.f0.size:Int)))-(a.f1.size:Int))) e)<|AC f<|AN))
noncomputable def fq (x:GTask)(n:Int):Int:=(nu x n).getD (-1)
theorem Br (x:GTask)(n:Int)(h:Wf.wf x):nu x n=some (fq x n):=by obtain⟨w0,a,b⟩:=h;refine Tot.getD ?_ _;unfold nu;repeat' (first|exact Tot.some _|apply Tot.cond|refine Tot.ite (by assumption) ?_)
theorem Dz (a:GTask)(b:Int)(h:Wf.wf a):Does E 106 [.agg (VQ .far a),V2 b] [VX (fq a b)]:=by exact Pp a b _ (Br a b h)
theorem MW (x:GTask)(n:Int)(b:Wf.wf x)(g:0≤n)(o:n≤1048576)(h:0≤fq x n):fq x n≤n∧ab.sm x:=by
 have e:=Br x n b;obtain⟨w0,i,a⟩:=b;generalize fq x n=r at *;unfold nu at e;obtain⟨c,e⟩:=gj e h;obtain⟨p,j⟩:=nO (n:=n) (k:=x.f0.size) g (by omega) w0 c;generalize IntKind.wrap .i64 (n-(x.f0.size:Int))=d at *;obtain⟨a2,e⟩:=gj e h;obtain⟨q,l⟩:=nO (n:=d) (k:=x.f1.size) c (by omega) i a2;generalize IntKind.wrap .i64 (d-(x.f1.size:Int))=f at *;try rw[Wa a]at e
 obtain⟨a3,e⟩:=gj e h;try rw[Wa a]at e
 obtain⟨s,m⟩:=FH x.f4 f a a2 (by omega) a3;generalize eD x.f4 f=t at *;cases e;exact⟨by omega,⟨gJ j,gJ l,m⟩⟩
inductive AO where|ret (v4:Int)|x0 (v1:Int)
def kP (q0:Kd)(v0:List GTask)(v1 v5:Int):US:=stL 27 [(0,.one (V8 5 (v0.map (VQ q0)))),(1,V2 v1),(5,V2 v5)]
def qv (q0:Kd)(a:Int):US:=stL 27 [(4,V2 a)]
def rn (q0:Kd)(a:Int):US:=stL 27 [(1,V2 a)]
abbrev uJ:US→Exit→US→Prop:=Round E 84 (an Tryz.f84 0)
def Kq {q0:Kd}(v0:List GTask)(v1 v5:Int):AO→Prop| .ret a=>Loops E 84 (an Tryz.f84 0) (kP q0 v0 v1 v5) .ret (qv q0 a)| .x0 b=>Loops E 84 (an Tryz.f84 0) (kP q0 v0 v1 v5) (.exit 0) (rn q0 b)
noncomputable def fX  : List GTask→Nat→Int→Option AO|[],i,v1=>some (.x0 v1)|hd::rest,i,v1=>if Wf.wf hd then cond (decide ((fq hd v1)<(0:Int))) (some (.ret (-1:Int))) (fX rest (i+1) (fq hd v1))else none
theorem Kp {q0:Kd}(v0:List GTask)(rest:List GTask):∀(i:Nat)(v1:Int),(v0).drop i=rest→v0.length≤9223372036854775807→Ans (fX rest i v1) (Kq (q0:=q0) v0 v1 (i:Int)):=by
 induction rest with
 |nil =>intro i v1 a b;have hb:=aK a;unfold fX;exact Vz (VB (show uJ (kP q0 v0 v1 (i:Int)) (.exit 0) (rn q0 v1)from RP [V5 (v0.length:Int),.b false] (ALn v0 (VQ q0)<|AC hb<|AN)) (by intro h;cases h))
 |cons hd rest g =>
  intro i v1 a b;have hb:=aF a;have j:=aG a b;have c:=au a;have d:=aE a;unfold fX;apply VE;intro e;apply VC<;>intro f
  ·exact Vz (VB (show uJ (kP q0 v0 v1 (i:Int)) .ret (qv q0 (-1:Int))from RP [V5 (v0.length:Int),.b true,.row ((VQ q0) hd),.ret [VX (fq hd v1)],.b true] (ALn v0 (VQ q0)<|AC hb<|AR (VQ q0) d<|AD (Dz hd v1 e)<|AC f<|AN)) (by intro h;cases h))
  ·exact(g (i+1) (fq hd v1) c b).mono fun y k=>by have r:uJ (kP q0 v0 v1 (i:Int)) .normal (kP q0 v0 (fq hd v1) (inc (i:Int))):=RP [V5 (v0.length:Int),.b true,.row ((VQ q0) hd),.ret [VX (fq hd v1)],.b false] (ALn v0 (VQ q0)<|AC hb<|AR (VQ q0) d<|AD (Dz hd v1 e)<|AC f<|AN);rw[j]at r;cases y<;>exact VA r k
noncomputable def lY (c:List GTask)(d:Int):Option (Int):=
  cond (decide ((IntKind.wrap .i64 (d-(c.length:Int)))<(0:Int)))
   (some ((-1:Int)))
   (if c.length≤9223372036854775807 then(fX c 0 (IntKind.wrap .i64 (d-(c.length:Int)))).bind fun y=>match y with
    | .ret a=>(some (a))
    | .x0 b=>(some (b))else none)
theorem MN {q0:Kd}(x0:List GTask)(d:Int):Ans (lY x0 d) (fun r=>Does E 84 [.one (V8 5 (x0.map (VQ q0))),V2 d] [VX r]):=by
 unfold lY;apply VC<;>intro e
 ·exact Vz (DP Tryz.f84 [V5 (x0.length:Int),.no,.b true] (ALn x0 (VQ q0)<|AC e<|AN))
 ·apply VE;intro f;apply VD;intro y c;replace c:=Kp (q0:=q0) x0 x0 0 (IntKind.wrap .i64 (d-(x0.length:Int))) rfl f y c;cases y with
  |ret a =>have g:=c;exact Vz (DP Tryz.f84 [V5 (x0.length:Int),.no,.b false,.lp .ret (qv q0 a)] (ALn x0 (VQ q0)<|AC e<|AL g<|AN))
  |x0 b =>have g:=c;exact Vz (DP Tryz.f84 [V5 (x0.length:Int),.no,.b false,.lp (.exit 0) (rn q0 b)] (ALn x0 (VQ q0)<|AC e<|AL g<|AN))
noncomputable def eE (x:List GTask)(n:Int):Int:=(lY x n).getD (-1)
theorem Bo:∀(rest:List GTask)(i:Nat)(n:Int),(∀y∈rest,Wf.wf y)→Tot (fX rest i n)
 |[],i,n,_=>Tot.some _
 |x::rest,i,n,h=>by
  have c:=h x (by simp);have a:=fun i n=>Bo rest i n fun y b=>h y (by simp[b])
  unfold fX;repeat' (first|exact Tot.some _|exact a _ _|apply Tot.cond|refine Tot.ite (by assumption) ?_)
theorem zr (x:List GTask)(n:Int)(h:Wf.wf x):lY x n=some (eE x n):=by refine Tot.getD ?_ _;unfold lY;refine Tot.cond (Tot.some _) ?_;refine Tot.ite h.1 (Tot.bind (Bo x 0 _ h.2) fun y a=>?_);cases y<;>exact Tot.some _
theorem BN {q0:Kd}(a:List GTask)(b:Int)(h:Wf.wf a):Does E 84 [.one (V8 5 (a.map (VQ q0))),V2 b] [VX (eE a b)]:=by exact MN a b _ (zr a b h)
theorem y8:∀(rest:List GTask)(i:Nat)(n:Int),(∀y∈rest,Wf.wf y)→0≤n→n≤1048576→∀y,fX rest i n=some y →
  (∃m,y = .x0 m∧0≤m∧m≤n∧∀z∈rest,ab.sm z)∨∃m,y = .ret m∧m<0
 |[],i,n,_,a,f,y,e=>by cases e;exact .inl ⟨n,rfl,a,Xb _,fun z hz=>by cases hz⟩
 |x::rest,i,n,h,a,f,y,e=>by
  have d:=h x (by simp);unfold fX at e;try rw[Wa d]at e
  by_cases q:fq x n<0
  ·rw[Wi q,Wn]at e;cases e;exact .inr ⟨_,rfl,by omega⟩
  ·rw[Wj q,Wu]at e;try rw[Wa d]at e
   obtain⟨b,c⟩:=MW x n d a f (by omega);rcases y8 rest _ _ (fun y j=>h y (by simp[j])) (by omega) (by omega) y e with⟨m,g1,k,g3,g4⟩|g
   ·refine .inl ⟨m,g1,k,by omega,fun z hz=>?_⟩;rcases WE.1 hz with rfl|hz
    ·exact c
    ·exact g4 z hz
   ·exact .inr g
theorem Ky (x:List GTask)(n:Int)(a:Wf.wf x)(d:0≤n)(f:n≤1048576)(h:0≤eE x n):eE x n≤n∧ab.sm x:=by
 have e:=zr x n a;generalize eE x n=r at *;unfold lY at e;obtain⟨b,e⟩:=gj e h;obtain⟨l,i⟩:=nO (n:=n) (k:=x.length) d f a.1 b;rw[Wa a.1,Wb]at e;obtain⟨y,j,c⟩:=e;rcases y8 x 0 _ a.2 b (by omega) y j with⟨m,rfl,o,g3,g4⟩|⟨m,rfl,g⟩
 ·cases c;exact⟨by omega,gJ i,g4⟩
 ·cases c;omega
noncomputable def py (a:LDag)(b:Int):Option (Int):=cond (decide ((IntKind.wrap .i64 (b-(a.f0.size:Int)))<(0:Int))) (some ((-1:Int))) (cond (decide ((IntKind.wrap .i64 ((IntKind.wrap .i64 (b-(a.f0.size:Int)))-(a.f1.size:Int)))<(0:Int))) (some ((-1:Int))) (if Wf.wf a.f5 then cond (decide ((eE a.f5 (IntKind.wrap .i64 ((IntKind.wrap .i64 (b-(a.f0.size:Int)))-(a.f1.size:Int))))<(0:Int))) (some ((-1:Int))) (some (eE a.f5 (IntKind.wrap .i64 ((IntKind.wrap .i64 (b-(a.f0.size:Int)))-(a.f1.size:Int)))))else none))
theorem Q7 {q0:Kd}(a:LDag)(b:Int):Ans (py a b) (fun r=>Does E 55 [.agg (VU .far q0 a),V2 b] [VX r]):=by
 unfold py;apply VC<;>intro c
 ·exact Vz (DP Tryz.f55 [.no,.b true] (AC c<|AN))
 ·apply VC<;>intro d
  ·exact Vz (DP Tryz.f55 [.no,.b false,.no,.b true] (AC c<|AC d<|AN))
  ·apply VE;intro e;apply VC<;>intro f
   ·exact Vz (DP Tryz.f55 [.no,.b false,.no,.b false,.ret [VX (eE a.f5 (IntKind.wrap .i64 ((IntKind.wrap .i64 (b-(a.f0.size:Int)))-(a.f1.size:Int))))],.b true] (AC c<|AC d<|AV (ψ:=fun k=>E.C k 84 [.one (V8 5 (a.f5.map (VQ q0))),V2 (IntKind.wrap .i64 ((IntKind.wrap .i64 (b-(a.f0.size:Int)))-(a.f1.size:Int)))]=some [VX (eE a.f5 (IntKind.wrap .i64 ((IntKind.wrap .i64 (b-(a.f0.size:Int)))-(a.f1.size:Int))))]) (BN a.f5 (IntKind.wrap .i64 ((IntKind.wrap .i64 (b-(a.f0.size:Int)))-(a.f1.size:Int))) e)<|AC f<|AN))
   ·exact Vz (DP Tryz.f55 [.no,.b false,.no,.b false,.ret [VX (eE a.f5 (IntKind.wrap .i64 ((IntKind.wrap .i64 (b-(a.f0.size:Int)))-(a.f1.size:Int))))],.b false] (AC c<|AC d<|AV (ψ:=fun k=>E.C k 84 [.one (V8 5 (a.f5.map (VQ q0))),V2 (IntKind.wrap .i64 ((IntKind.wrap .i64 (b-(a.f0.size:Int)))-(a.f1.size:Int)))]=some [VX (eE a.f5 (IntKind.wrap .i64 ((IntKind.wrap .i64 (b-(a.f0.size:Int)))-(a.f1.size:Int))))]) (BN a.f5 (IntKind.wrap .i64 ((IntKind.wrap .i64 (b-(a.f0.size:Int)))-(a.f1.size:Int))) e)<|AC f<|AN))
noncomputable def gr (x:LDag)(n:Int):Int:=(py x n).getD (-1)
theorem CL (x:LDag)(n:Int)(h:Wf.wf x):py x n=some (gr x n):=by obtain⟨w0,a,b⟩:=h;refine Tot.getD ?_ _;unfold py;repeat' (first|exact Tot.some _|apply Tot.cond|refine Tot.ite (by assumption) ?_)
theorem GG {q0:Kd}(a:LDag)(b:Int)(h:Wf.wf a):Does E 55 [.agg (VU .far q0 a),V2 b] [VX (gr a b)]:=by exact Q7 a b _ (CL a b h)
theorem Pv (x:LDag)(n:Int)(b:Wf.wf x)(g:0≤n)(o:n≤1048576)(h:0≤gr x n):gr x n≤n∧ab.sm x:=by
 have e:=CL x n b;obtain⟨w0,i,a⟩:=b;generalize gr x n=r at *;unfold py at e;obtain⟨c,e⟩:=gj e h;obtain⟨p,j⟩:=nO (n:=n) (k:=x.f0.size) g (by omega) w0 c;generalize IntKind.wrap .i64 (n-(x.f0.size:Int))=d at *;obtain⟨a2,e⟩:=gj e h;obtain⟨q,l⟩:=nO (n:=d) (k:=x.f1.size) c (by omega) i a2;generalize IntKind.wrap .i64 (d-(x.f1.size:Int))=f at *;try rw[Wa a]at e
 obtain⟨a3,e⟩:=gj e h;try rw[Wa a]at e
 obtain⟨s,m⟩:=Ky x.f5 f a a2 (by omega) a3;generalize eE x.f5 f=t at *;cases e;exact⟨by omega,⟨gJ j,gJ l,m⟩⟩
noncomputable def nq (a:LPlan)(b:Int):Option (Int):=if Wf.wf a.f0 then cond (decide ((gr a.f0 b)<(0:Int))) (some ((-1:Int))) (some (gr a.f0 b))else none
theorem Pm {q0:Kd}(a:LPlan)(b:Int):Ans (nq a b) (fun r=>Does E 23 [.agg (VV .far q0 a),V2 b] [VX r]):=by
 unfold nq;apply VE;intro c;apply VC<;>intro d
 ·exact Vz (DP Tryz.f23 [.ret [VX (gr a.f0 b)],.b true] (AV (ψ:=fun k=>E.C k 55 [.agg (VU .far q0 a.f0),V2 b]=some [VX (gr a.f0 b)]) (GG a.f0 b c)<|AC d<|AN))
 ·exact Vz (DP Tryz.f23 [.ret [VX (gr a.f0 b)],.b false] (AV (ψ:=fun k=>E.C k 55 [.agg (VU .far q0 a.f0),V2 b]=some [VX (gr a.f0 b)]) (GG a.f0 b c)<|AC d<|AN))
noncomputable def dZ (x:LPlan)(n:Int):Int:=(nq x n).getD (-1)
theorem Bp (x:LPlan)(n:Int)(h:Wf.wf x):nq x n=some (dZ x n):=by have w0:Wf.wf x.f0:=h;refine Tot.getD ?_ _;unfold nq;repeat' (first|exact Tot.some _|apply Tot.cond|refine Tot.ite (by assumption) ?_)
theorem Dx {q0:Kd}(a:LPlan)(b:Int)(h:Wf.wf a):Does E 23 [.agg (VV .far q0 a),V2 b] [VX (dZ a b)]:=by exact Pm a b _ (Bp a b h)
theorem MU (x:LPlan)(n:Int)(a:Wf.wf x)(b:0≤n)(f:n≤1048576)(h:0≤dZ x n):dZ x n≤n∧ab.sm x:=by
 have e:=Bp x n a;have w0:Wf.wf x.f0:=a;generalize dZ x n=r at *;unfold nq at e;try rw[Wa w0]at e
 obtain⟨c,e⟩:=gj e h;try rw[Wa w0]at e
 obtain⟨g,d⟩:=Pv x.f0 n w0 b (by omega) c;generalize gr x.f0 n=i at *;cases e;exact⟨by omega,d⟩
inductive AM where|ret (v4:Int)|x0 (v1:Int)
def kN (q0:Kd)(v0:List LPlan)(v1 v5:Int):US:=stL 27 [(0,.one (V8 9 (v0.map (VV q0 q0)))),(1,V2 v1),(5,V2 v5)]
def qt (q0:Kd)(a:Int):US:=stL 27 [(4,V2 a)]
def rk (q0:Kd)(a:Int):US:=stL 27 [(1,V2 a)]
abbrev uI:US→Exit→US→Prop:=Round E 10 (an Tryz.f10 0)
def Kn {q0:Kd}(v0:List LPlan)(v1 v5:Int):AM→Prop| .ret a=>Loops E 10 (an Tryz.f10 0) (kN q0 v0 v1 v5) .ret (qt q0 a)| .x0 b=>Loops E 10 (an Tryz.f10 0) (kN q0 v0 v1 v5) (.exit 0) (rk q0 b)
noncomputable def fW  : List LPlan→Nat→Int→Option AM|[],i,v1=>some (.x0 v1)|hd::rest,i,v1=>if Wf.wf hd then cond (decide ((dZ hd v1)<(0:Int))) (some (.ret (-1:Int))) (fW rest (i+1) (dZ hd v1))else none
theorem Km {q0:Kd}(v0:List LPlan)(rest:List LPlan):∀(i:Nat)(v1:Int),(v0).drop i=rest→v0.length≤9223372036854775807→Ans (fW rest i v1) (Kn (q0:=q0) v0 v1 (i:Int)):=by
 induction rest with
 |nil =>intro i v1 a b;have hb:=aK a;unfold fW;exact Vz (VB (show uI (kN q0 v0 v1 (i:Int)) (.exit 0) (rk q0 v1)from RP [V5 (v0.length:Int),.b false] (ALn v0 (VV q0 q0)<|AC hb<|AN)) (by intro h;cases h))
 |cons hd rest g =>
  intro i v1 a b;have hb:=aF a;have j:=aG a b;have c:=au a;have d:=aE a;unfold fW;apply VE;intro e;apply VC<;>intro f
  ·exact Vz (VB (show uI (kN q0 v0 v1 (i:Int)) .ret (qt q0 (-1:Int))from RP [V5 (v0.length:Int),.b true,.row ((VV q0 q0) hd),.ret [VX (dZ hd v1)],.b true] (ALn v0 (VV q0 q0)<|AC hb<|AR (VV q0 q0) d<|AV (ψ:=fun k=>E.C k 23 [.agg (VV .far q0 hd),V2 v1]=some [VX (dZ hd v1)]) (Dx hd v1 e)<|AC f<|AN)) (by intro h;cases h))
  ·exact(g (i+1) (dZ hd v1) c b).mono fun y l=>by have r:uI (kN q0 v0 v1 (i:Int)) .normal (kN q0 v0 (dZ hd v1) (inc (i:Int))):=RP [V5 (v0.length:Int),.b true,.row ((VV q0 q0) hd),.ret [VX (dZ hd v1)],.b false] (ALn v0 (VV q0 q0)<|AC hb<|AR (VV q0 q0) d<|AV (ψ:=fun k=>E.C k 23 [.agg (VV .far q0 hd),V2 v1]=some [VX (dZ hd v1)]) (Dx hd v1 e)<|AC f<|AN);rw[j]at r;cases y<;>exact VA r l
noncomputable def lW (c:List LPlan)(d:Int):Option (Int):=
  cond (decide ((IntKind.wrap .i64 (d-(c.length:Int)))<(0:Int)))
   (some ((-1:Int)))
   (if c.length≤9223372036854775807 then(fW c 0 (IntKind.wrap .i64 (d-(c.length:Int)))).bind fun y=>match y with
    | .ret a=>(some (a))
    | .x0 b=>(some (b))else none)
theorem MK {q0:Kd}(x0:List LPlan)(d:Int):Ans (lW x0 d) (fun r=>Does E 10 [.one (V8 9 (x0.map (VV q0 q0))),V2 d] [VX r]):=by
 unfold lW;apply VC<;>intro e
 ·exact Vz (DP Tryz.f10 [V5 (x0.length:Int),.no,.b true] (ALn x0 (VV q0 q0)<|AC e<|AN))
 ·apply VE;intro f;apply VD;intro y c;replace c:=Km (q0:=q0) x0 x0 0 (IntKind.wrap .i64 (d-(x0.length:Int))) rfl f y c;cases y with
  |ret a =>have g:=c;exact Vz (DP Tryz.f10 [V5 (x0.length:Int),.no,.b false,.lp .ret (qt q0 a)] (ALn x0 (VV q0 q0)<|AC e<|AL g<|AN))
  |x0 b =>have g:=c;exact Vz (DP Tryz.f10 [V5 (x0.length:Int),.no,.b false,.lp (.exit 0) (rk q0 b)] (ALn x0 (VV q0 q0)<|AC e<|AL g<|AN))
noncomputable def bJ (x:List LPlan)(n:Int):Int:=(lW x n).getD (-1)
theorem Bn:∀(rest:List LPlan)(i:Nat)(n:Int),(∀y∈rest,Wf.wf y)→Tot (fW rest i n)
 |[],i,n,_=>Tot.some _
 |x::rest,i,n,h=>by
  have c:=h x (by simp);have a:=fun i n=>Bn rest i n fun y b=>h y (by simp[b])
  unfold fW;repeat' (first|exact Tot.some _|exact a _ _|apply Tot.cond|refine Tot.ite (by assumption) ?_)
theorem zq (x:List LPlan)(n:Int)(h:Wf.wf x):lW x n=some (bJ x n):=by refine Tot.getD ?_ _;unfold lW;refine Tot.cond (Tot.some _) ?_;refine Tot.ite h.1 (Tot.bind (Bn x 0 _ h.2) fun y a=>?_);cases y<;>exact Tot.some _
theorem vT {q0:Kd}(a:List LPlan)(b:Int)(h:Wf.wf a):Does E 10 [.one (V8 9 (a.map (VV q0 q0))),V2 b] [VX (bJ a b)]:=by exact MK a b _ (zq a b h)
theorem y7:∀(rest:List LPlan)(i:Nat)(n:Int),(∀y∈rest,Wf.wf y)→0≤n→n≤1048576→∀y,fW rest i n=some y →
  (∃m,y = .x0 m∧0≤m∧m≤n∧∀z∈rest,ab.sm z)∨∃m,y = .ret m∧m<0
 |[],i,n,_,a,f,y,e=>by cases e;exact .inl ⟨n,rfl,a,Xb _,fun z hz=>by cases hz⟩
 |x::rest,i,n,h,a,f,y,e=>by
  have d:=h x (by simp);unfold fW at e;try rw[Wa d]at e
  by_cases q:dZ x n<0
  ·rw[Wi q,Wn]at e;cases e;exact .inr ⟨_,rfl,by omega⟩
  ·rw[Wj q,Wu]at e;try rw[Wa d]at e
   obtain⟨b,c⟩:=MU x n d a f (by omega);rcases y7 rest _ _ (fun y j=>h y (by simp[j])) (by omega) (by omega) y e with⟨m,g1,k,g3,g4⟩|g
   ·refine .inl ⟨m,g1,k,by omega,fun z hz=>?_⟩;rcases WE.1 hz with rfl|hz
    ·exact c
    ·exact g4 z hz
   ·exact .inr g
theorem Kx (x:List LPlan)(n:Int)(a:Wf.wf x)(d:0≤n)(f:n≤1048576)(h:0≤bJ x n):bJ x n≤n∧ab.sm x:=by
 have e:=zq x n a;generalize bJ x n=r at *;unfold lW at e;obtain⟨b,e⟩:=gj e h;obtain⟨l,i⟩:=nO (n:=n) (k:=x.length) d f a.1 b;rw[Wa a.1,Wb]at e;obtain⟨y,j,c⟩:=e;rcases y7 x 0 _ a.2 b (by omega) y j with⟨m,rfl,o,g3,g4⟩|⟨m,rfl,g⟩
 ·cases c;exact⟨by omega,gJ i,g4⟩
 ·cases c;omega
noncomputable def kO (a:List GState)(b:Int):Option (Int):=cond (decide ((IntKind.wrap .i64 (b-(a.length:Int)))<(0:Int))) (some ((-1:Int))) (some (IntKind.wrap .i64 (b-(a.length:Int))))
theorem Ko (a:List GState)(b:Int):Ans (kO a b) (fun r=>Does E 56 [.one (V8 4 (a.map VP)),V2 b] [VX r]):=by
 unfold kO;apply VC<;>intro c
 ·exact Vz (DP Tryz.f56 [V5 (a.length:Int),.no,.b true] (ALn a VP<|AC c<|AN))
 ·exact Vz (DP Tryz.f56 [V5 (a.length:Int),.no,.b false] (ALn a VP<|AC c<|AN))
noncomputable def ff (x:List GState)(n:Int):Int:=(kO x n).getD (-1)
theorem xy (x:List GState)(n:Int)(h:Wf.wf x):kO x n=some (ff x n):=by refine Tot.getD ?_ _;unfold kO;refine Tot.cond (Tot.some _) ?_;exact Tot.some _
theorem zK (a:List GState)(b:Int)(h:Wf.wf a):Does E 56 [.one (V8 4 (a.map VP)),V2 b] [VX (ff a b)]:=by exact Ko a b _ (xy a b h)
theorem H6 (x:List GState)(n:Int)(a:Wf.wf x)(b:0≤n)(c:n≤1048576)(h:0≤ff x n):ff x n≤n∧ab.sm x:=by have e:=xy x n a;generalize ff x n=r at *;unfold kO at e;obtain⟨d,e⟩:=gj e h;obtain⟨f,g⟩:=nO (n:=n) (k:=x.length) b c a.1 d;cases e;exact⟨f,gJ g,fun y _=>trivial⟩
noncomputable def pz (a:LRun)(b:Int):Option (Int):=cond (decide ((IntKind.wrap .i64 (b-(a.f0.size:Int)))<(0:Int))) (some ((-1:Int))) (if Wf.wf a.f3 then cond (decide ((ff a.f3 (IntKind.wrap .i64 (b-(a.f0.size:Int))))<(0:Int))) (some ((-1:Int))) (some (ff a.f3 (IntKind.wrap .i64 (b-(a.f0.size:Int)))))else none)
theorem Q8 (a:LRun)(b:Int):Ans (pz a b) (fun r=>Does E 24 [.agg (VW .far a),V2 b] [VX r]):=by
 unfold pz;apply VC<;>intro c
 ·exact Vz (DP Tryz.f24 [.no,.b true] (AC c<|AN))
 ·apply VE;intro d;apply VC<;>intro e
  ·exact Vz (DP Tryz.f24 [.no,.b false,.ret [VX (ff a.f3 (IntKind.wrap .i64 (b-(a.f0.size:Int))))],.b true] (AC c<|AD (zK a.f3 (IntKind.wrap .i64 (b-(a.f0.size:Int))) d)<|AC e<|AN))
  ·exact Vz (DP Tryz.f24 [.no,.b false,.ret [VX (ff a.f3 (IntKind.wrap .i64 (b-(a.f0.size:Int))))],.b false] (AC c<|AD (zK a.f3 (IntKind.wrap .i64 (b-(a.f0.size:Int))) d)<|AC e<|AN))
noncomputable def gt (x:LRun)(n:Int):Int:=(pz x n).getD (-1)
theorem CM (x:LRun)(n:Int)(h:Wf.wf x):pz x n=some (gt x n):=by obtain⟨w0,a,b⟩:=h;refine Tot.getD ?_ _;unfold pz;repeat' (first|exact Tot.some _|apply Tot.cond|refine Tot.ite (by assumption) ?_)
theorem GH (a:LRun)(b:Int)(h:Wf.wf a):Does E 24 [.agg (VW .far a),V2 b] [VX (gt a b)]:=by exact Q8 a b _ (CM a b h)
theorem Pw (x:LRun)(n:Int)(b:Wf.wf x)(f:0≤n)(j:n≤1048576)(h:0≤gt x n):gt x n≤n∧ab.sm x:=by
 have e:=CM x n b;obtain⟨w0,l,a⟩:=b;generalize gt x n=r at *;unfold pz at e;obtain⟨c,e⟩:=gj e h;obtain⟨m,g⟩:=nO (n:=n) (k:=x.f0.size) f (by omega) w0 c;generalize IntKind.wrap .i64 (n-(x.f0.size:Int))=d at *;try rw[Wa a]at e
 obtain⟨a2,e⟩:=gj e h;try rw[Wa a]at e
 obtain⟨o,i⟩:=H6 x.f3 d a c (by omega) a2;generalize ff x.f3 d=p at *;cases e;exact⟨by omega,⟨gJ g,trivial,i⟩⟩
inductive Cf where|ret (v4:Int)|x0 (v1:Int)
def lX (q0:Kd)(v0:List LRun)(v1 v5:Int):US:=stL 27 [(0,.one (V8 5 (v0.map (VW q0)))),(1,V2 v1),(5,V2 v5)]
def rl (q0:Kd)(a:Int):US:=stL 27 [(4,V2 a)]
def s6 (q0:Kd)(a:Int):US:=stL 27 [(1,V2 a)]
abbrev wo:US→Exit→US→Prop:=Round E 11 (an Tryz.f11 0)
def MM {q0:Kd}(v0:List LRun)(v1 v5:Int):Cf→Prop| .ret a=>Loops E 11 (an Tryz.f11 0) (lX q0 v0 v1 v5) .ret (rl q0 a)| .x0 b=>Loops E 11 (an Tryz.f11 0) (lX q0 v0 v1 v5) (.exit 0) (s6 q0 b)
noncomputable def gP  : List LRun→Nat→Int→Option Cf|[],i,v1=>some (.x0 v1)|hd::rest,i,v1=>if Wf.wf hd then cond (decide ((gt hd v1)<(0:Int))) (some (.ret (-1:Int))) (gP rest (i+1) (gt hd v1))else none
theorem ML {q0:Kd}(v0:List LRun)(rest:List LRun):∀(i:Nat)(v1:Int),(v0).drop i=rest→v0.length≤9223372036854775807→Ans (gP rest i v1) (MM (q0:=q0) v0 v1 (i:Int)):=by
 induction rest with
 |nil =>intro i v1 a b;have hb:=aK a;unfold gP;exact Vz (VB (show wo (lX q0 v0 v1 (i:Int)) (.exit 0) (s6 q0 v1)from RP [V5 (v0.length:Int),.b false] (ALn v0 (VW q0)<|AC hb<|AN)) (by intro h;cases h))
 |cons hd rest g =>
  intro i v1 a b;have hb:=aF a;have j:=aG a b;have c:=au a;have d:=aE a;unfold gP;apply VE;intro e;apply VC<;>intro f
  ·exact Vz (VB (show wo (lX q0 v0 v1 (i:Int)) .ret (rl q0 (-1:Int))from RP [V5 (v0.length:Int),.b true,.row ((VW q0) hd),.ret [VX (gt hd v1)],.b true] (ALn v0 (VW q0)<|AC hb<|AR (VW q0) d<|AD (GH hd v1 e)<|AC f<|AN)) (by intro h;cases h))
  ·exact(g (i+1) (gt hd v1) c b).mono fun y k=>by have r:wo (lX q0 v0 v1 (i:Int)) .normal (lX q0 v0 (gt hd v1) (inc (i:Int))):=RP [V5 (v0.length:Int),.b true,.row ((VW q0) hd),.ret [VX (gt hd v1)],.b false] (ALn v0 (VW q0)<|AC hb<|AR (VW q0) d<|AD (GH hd v1 e)<|AC f<|AN);rw[j]at r;cases y<;>exact VA r k
noncomputable def nt (c:List LRun)(d:Int):Option (Int):=
  cond (decide ((IntKind.wrap .i64 (d-(c.length:Int)))<(0:Int)))
   (some ((-1:Int)))
   (if c.length≤9223372036854775807 then(gP c 0 (IntKind.wrap .i64 (d-(c.length:Int)))).bind fun y=>match y with
    | .ret a=>(some (a))
    | .x0 b=>(some (b))else none)
theorem Pn {q0:Kd}(x0:List LRun)(d:Int):Ans (nt x0 d) (fun r=>Does E 11 [.one (V8 5 (x0.map (VW q0))),V2 d] [VX r]):=by
 unfold nt;apply VC<;>intro e
 ·exact Vz (DP Tryz.f11 [V5 (x0.length:Int),.no,.b true] (ALn x0 (VW q0)<|AC e<|AN))
 ·apply VE;intro f;apply VD;intro y c;replace c:=ML (q0:=q0) x0 x0 0 (IntKind.wrap .i64 (d-(x0.length:Int))) rfl f y c;cases y with
  |ret a =>have g:=c;exact Vz (DP Tryz.f11 [V5 (x0.length:Int),.no,.b false,.lp .ret (rl q0 a)] (ALn x0 (VW q0)<|AC e<|AL g<|AN))
  |x0 b =>have g:=c;exact Vz (DP Tryz.f11 [V5 (x0.length:Int),.no,.b false,.lp (.exit 0) (s6 q0 b)] (ALn x0 (VW q0)<|AC e<|AL g<|AN))
noncomputable def fp (x:List LRun)(n:Int):Int:=(nt x n).getD (-1)
theorem CK:∀(rest:List LRun)(i:Nat)(n:Int),(∀y∈rest,Wf.wf y)→Tot (gP rest i n)
 |[],i,n,_=>Tot.some _
 |x::rest,i,n,h=>by
  have c:=h x (by simp);have a:=fun i n=>CK rest i n fun y b=>h y (by simp[b])
  unfold gP;repeat' (first|exact Tot.some _|exact a _ _|apply Tot.cond|refine Tot.ite (by assumption) ?_)
theorem Bq (x:List LRun)(n:Int)(h:Wf.wf x):nt x n=some (fp x n):=by refine Tot.getD ?_ _;unfold nt;refine Tot.cond (Tot.some _) ?_;refine Tot.ite h.1 (Tot.bind (CK x 0 _ h.2) fun y a=>?_);cases y<;>exact Tot.some _
theorem Dy {q0:Kd}(a:List LRun)(b:Int)(h:Wf.wf a):Does E 11 [.one (V8 5 (a.map (VW q0))),V2 b] [VX (fp a b)]:=by exact Pn a b _ (Bq a b h)
theorem AX:∀(rest:List LRun)(i:Nat)(n:Int),(∀y∈rest,Wf.wf y)→0≤n→n≤1048576→∀y,gP rest i n=some y →
  (∃m,y = .x0 m∧0≤m∧m≤n∧∀z∈rest,ab.sm z)∨∃m,y = .ret m∧m<0
 |[],i,n,_,a,f,y,e=>by cases e;exact .inl ⟨n,rfl,a,Xb _,fun z hz=>by cases hz⟩
 |x::rest,i,n,h,a,f,y,e=>by
  have d:=h x (by simp);unfold gP at e;try rw[Wa d]at e
  by_cases q:gt x n<0
  ·rw[Wi q,Wn]at e;cases e;exact .inr ⟨_,rfl,by omega⟩
  ·rw[Wj q,Wu]at e;try rw[Wa d]at e
   obtain⟨b,c⟩:=Pw x n d a f (by omega);rcases AX rest _ _ (fun y j=>h y (by simp[j])) (by omega) (by omega) y e with⟨m,g1,k,g3,g4⟩|g
   ·refine .inl ⟨m,g1,k,by omega,fun z hz=>?_⟩;rcases WE.1 hz with rfl|hz
    ·exact c
    ·exact g4 z hz
   ·exact .inr g
theorem MV (x:List LRun)(n:Int)(a:Wf.wf x)(d:0≤n)(f:n≤1048576)(h:0≤fp x n):fp x n≤n∧ab.sm x:=by
 have e:=Bq x n a;generalize fp x n=r at *;unfold nt at e;obtain⟨b,e⟩:=gj e h;obtain⟨l,i⟩:=nO (n:=n) (k:=x.length) d f a.1 b;rw[Wa a.1,Wb]at e;obtain⟨y,j,c⟩:=e;rcases AX x 0 _ a.2 b (by omega) y j with⟨m,rfl,o,g3,g4⟩|⟨m,rfl,g⟩
 ·cases c;exact⟨by omega,gJ i,g4⟩
 ·cases c;omega
noncomputable def lV (a:LBoard)(b:Int):Option (Int):=if Wf.wf a.f0 then cond (decide ((aI a.f0 b)<(0:Int))) (some ((-1:Int))) (if Wf.wf a.f1 then cond (decide ((bJ a.f1 (aI a.f0 b))<(0:Int))) (some ((-1:Int))) (if Wf.wf a.f2 then cond (decide ((fp a.f2 (bJ a.f1 (aI a.f0 b)))<(0:Int))) (some ((-1:Int))) (some (fp a.f2 (bJ a.f1 (aI a.f0 b))))else none)else none)else none
theorem MJ {q0:Kd}(a:LBoard)(b:Int):Ans (lV a b) (fun r=>Does E 4 [.agg (VR .far q0 a),V2 b] [VX r]):=by
 unfold lV;apply VE;intro c;apply VC<;>intro d
 ·exact Vz (DP Tryz.f4 [.ret [VX (aI a.f0 b)],.b true] (AD (m7 a.f0 b c)<|AC d<|AN))
 ·apply VE;intro e;apply VC<;>intro f
  ·exact Vz (DP Tryz.f4 [.ret [VX (aI a.f0 b)],.b false,.ret [VX (bJ a.f1 (aI a.f0 b))],.b true] (AD (m7 a.f0 b c)<|AC d<|AV (ψ:=fun k=>E.C k 10 [.one (V8 9 (a.f1.map (VV q0 q0))),V2 (aI a.f0 b)]=some [VX (bJ a.f1 (aI a.f0 b))]) (vT a.f1 (aI a.f0 b) e)<|AC f<|AN))
  ·apply VE;intro g;apply VC<;>intro h
   ·exact Vz (DP Tryz.f4 [.ret [VX (aI a.f0 b)],.b false,.ret [VX (bJ a.f1 (aI a.f0 b))],.b false,.ret [VX (fp a.f2 (bJ a.f1 (aI a.f0 b)))],.b true] (AD (m7 a.f0 b c)<|AC d<|AV (ψ:=fun k=>E.C k 10 [.one (V8 9 (a.f1.map (VV q0 q0))),V2 (aI a.f0 b)]=some [VX (bJ a.f1 (aI a.f0 b))]) (vT a.f1 (aI a.f0 b) e)<|AC f<|AV (ψ:=fun k=>E.C k 11 [.one (V8 5 (a.f2.map (VW q0))),V2 (bJ a.f1 (aI a.f0 b))]=some [VX (fp a.f2 (bJ a.f1 (aI a.f0 b)))]) (Dy a.f2 (bJ a.f1 (aI a.f0 b)) g)<|AC h<|AN))
   ·exact Vz (DP Tryz.f4 [.ret [VX (aI a.f0 b)],.b false,.ret [VX (bJ a.f1 (aI a.f0 b))],.b false,.ret [VX (fp a.f2 (bJ a.f1 (aI a.f0 b)))],.b false] (AD (m7 a.f0 b c)<|AC d<|AV (ψ:=fun k=>E.C k 10 [.one (V8 9 (a.f1.map (VV q0 q0))),V2 (aI a.f0 b)]=some [VX (bJ a.f1 (aI a.f0 b))]) (vT a.f1 (aI a.f0 b) e)<|AC f<|AV (ψ:=fun k=>E.C k 11 [.one (V8 5 (a.f2.map (VW q0))),V2 (bJ a.f1 (aI a.f0 b))]=some [VX (fp a.f2 (bJ a.f1 (aI a.f0 b)))]) (Dy a.f2 (bJ a.f1 (aI a.f0 b)) g)<|AC h<|AN))
noncomputable def ci (x:LBoard)(n:Int):Int:=(lV x n).getD (-1)
theorem zp (x:LBoard)(n:Int)(h:Wf.wf x):lV x n=some (ci x n):=by obtain⟨w0,a,b⟩:=h;refine Tot.getD ?_ _;unfold lV;repeat' (first|exact Tot.some _|apply Tot.cond|refine Tot.ite (by assumption) ?_)
theorem lP {q0:Kd}(a:LBoard)(b:Int)(h:Wf.wf a):Does E 4 [.agg (VR .far q0 a),V2 b] [VX (ci a b)]:=by exact MJ a b _ (zp a b h)
theorem Kw (x:LBoard)(n:Int)(c:Wf.wf x)(i:0≤n)(m:n≤1048576)(h:0≤ci x n):ci x n≤n∧ab.sm x:=by
 have e:=zp x n c;obtain⟨w0,a,b⟩:=c;generalize ci x n=r at *;unfold lV at e;try rw[Wa w0]at e
 obtain⟨d,e⟩:=gj e h;try rw[Wa w0]at e
 obtain⟨o,j⟩:=Eq x.f0 n w0 i (by omega) d;generalize aI x.f0 n=f at *;try rw[Wa a]at e
 obtain⟨a2,e⟩:=gj e h;try rw[Wa a]at e
 obtain⟨p,k⟩:=Kx x.f1 f a d (by omega) a2;generalize bJ x.f1 f=g at *;try rw[Wa b]at e
 obtain⟨a3,e⟩:=gj e h;try rw[Wa b]at e
 obtain⟨q,l⟩:=MV x.f2 g b a2 (by omega) a3;generalize fp x.f2 g=s at *;cases e;exact⟨by omega,⟨j,k,l⟩⟩
noncomputable def s8 (a:GSession):Option (GSession):=some (a)
theorem H1 (a:GSession):Ans (s8 a) (fun r=>Does E 36 [.agg (VN a)] [(true,VN r)]):=by unfold s8;exact Vz (DP Tryz.f36 [] AN)
def dD (x:GSession):GSession:=x
theorem Hq (a:GSession)(h:ab.sm a):Does E 36 [.agg (VN a)] [(true,VN (dD a))]:=by
 have b:ab.sm a.f2:=h;exact H1 a _ (by
  unfold s8;repeat rw[Wa (by assumption)]
  rfl)
inductive vF where|x0 (v3:List GSession)
def mp (v0 v3:List GSession)(v4:Int):US:=stL 23 [(0,.one (V8 3 (v0.map VN))),(3,.one (V7 3 (v3.map VN))),(4,V2 v4)]
def ob (a:List GSession):US:=stL 23 [(3,.one (V7 3 (a.map VN)))]
abbrev vE:US→Exit→US→Prop:=Round E 14 (an Tryz.f14 0)
def Ep (v0 v3:List GSession)(v4:Int):vF→Prop| .x0 a=>Loops E 14 (an Tryz.f14 0) (mp v0 v3 v4) (.exit 0) (ob a)
noncomputable def eX  : List GSession→Nat→(List GSession)→Option vF|[],i,v3=>some (.x0 v3)|hd::rest,i,v3=>if ab.sm hd then(ak v3 (i:Int)).bind fun g1=>eX rest (i+1) (v3.set (i:Int).toNat (dD hd))else none
theorem Eo (v0:List GSession)(rest:List GSession):∀(i:Nat)(v3:List GSession),(v0).drop i=rest→v0.length≤9223372036854775807→Ans (eX rest i v3) (Ep v0 v3 (i:Int)):=by
 induction rest with
 |nil =>intro i v3 a b;have hb:=aK a;unfold eX;exact Vz (VB (show vE (mp v0 v3 (i:Int)) (.exit 0) (ob v3)from RP [V5 (v0.length:Int),.b false] (ALn v0 VN<|AC hb<|AN)) (by intro h;cases h))
 |cons hd rest d =>intro i v3 a b;have hb:=aF a;have e:=aG a b;have c:=au a;have f:=aE a;unfold eX;apply VE;intro g;apply VD;intro g1 j;exact(d (i+1) (v3.set (i:Int).toNat (dD hd)) c b).mono fun y k=>by have r:vE (mp v0 v3 (i:Int)) .normal (mp v0 (v3.set (i:Int).toNat (dD hd)) (inc (i:Int))):=RP [V5 (v0.length:Int),.b true,.row (VN hd),.ret [(true,VN (dD hd))],.row (VN g1),.rows ((v3.set (i:Int).toNat (dD hd)).map VN)] (ALn v0 VN<|AC hb<|AR VN f<|AD (Hq hd g)<|AG VN j<|AC (p:=(v3.map VN).set (0+(i:Int).toNat) (aD (VN g1) 0 [tI ((dD hd).f0),tI ((dD hd).f1),tS ((dD hd).f2)])=(v3.set (i:Int).toNat (dD hd)).map VN) (ik (by rfl))<|AN);rw[e]at r;cases y<;>exact VA r k
noncomputable def rp (a:List GSession):Option ((List GSession)):=
  if 0≤(a.length:Int)∧(a.length:Int)≤(a.length:Int)∧((32:Nat):Int)*(a.length:Int)≤281474976710656∧(a.length:Int)≤4611686018427387904 then if a.length≤9223372036854775807 then(eX a 0 (List.replicate (a.length:Int).toNat (GSession.mk 0 0 ByteArray.empty))).bind fun y=>match y with
   | .x0 b=>(some (b))else none else none
theorem FD (x0:List GSession):Ans (rp x0) (fun r=>Does E 14 [.one (V8 3 (x0.map VN))] [(false,[V7 3 (r.map VN)])]):=by
 unfold rp;apply VE;intro d;apply VE;intro b;apply VD;intro y c;replace c:=Eo x0 x0 0 (List.replicate (x0.length:Int).toNat (GSession.mk 0 0 ByteArray.empty)) rfl b y c;cases y with
 |x0 a =>have e:=c;exact Vz (DP Tryz.f14 [V5 (x0.length:Int),.rows ((List.replicate (x0.length:Int).toNat (GSession.mk 0 0 ByteArray.empty)).map VN),.lp (.exit 0) (ob a)] (ALn x0 VN<|AC d<|AC (p:=List.replicate (x0.length:Int).toNat [tI 0,tI 0,tS ByteArray.empty]=(List.replicate (x0.length:Int).toNat (GSession.mk 0 0 ByteArray.empty)).map VN) (ov rfl)<|AL e<|AN))
def kR (l:List GSession):List GSession:=l
theorem vm:∀(rest:List GSession)(i:Nat)(v:List GSession),(∀y∈rest,ab.sm y)→v.length=i+rest.length→eX rest i v=some (.x0 (v.take i++rest))
 |[],i,v,_,hv=>by unfold eX;rw[XB (by simp at hv;omega)];simp
 |x::rest,i,v,h,hv=>by
  have a:=h x (by simp);have hi:i<v.length:=by simp at hv;omega
  unfold eX;rw[cp,Wg hi,V9];try rw[Wa a]
  rw[Xv,vm rest (i+1) _ (fun y b=>h y (by simp[b])) (by simp at hv ⊢;omega),ui hi];simp[dD]
theorem Fa (a:List GSession)(h:ab.sm a):Does E 14 [.one (V8 3 (a.map VN))] [(false,[V7 3 ((kR a).map VN)])]:=by exact FD a _ (by unfold rp;rw[Wa (xh 32 (by decide) h.1 rfl),Wa (bM h),vm a 0 _ h.2 (by simp)];simp[kR])
inductive xg where|x0 (v3:List Y9)
def nv (v0 v3:List Y9)(v4:Int):US:=stL 22 [(0,.one (V8 1 (v0.map etS))),(3,.one (V7 1 (v3.map etS))),(4,V2 v4)]
def o9 (a:List Y9):US:=stL 22 [(3,.one (V7 1 (a.map etS)))]
abbrev xf:US→Exit→US→Prop:=Round E 124 (an Tryz.f124 0)
def FF (v0 v3:List Y9)(v4:Int):xg→Prop| .x0 a=>Loops E 124 (an Tryz.f124 0) (nv v0 v3 v4) (.exit 0) (o9 a)
noncomputable def fF  : List Y9→Nat→(List Y9)→Option xg|[],i,v3=>some (.x0 v3)|hd::rest,i,v3=>(ak v3 (i:Int)).bind fun g1=>fF rest (i+1) (v3.set (i:Int).toNat hd)
theorem FE (v0:List Y9)(rest:List Y9):∀(i:Nat)(v3:List Y9),(v0).drop i=rest→v0.length≤9223372036854775807→Ans (fF rest i v3) (FF v0 v3 (i:Int)):=by
 induction rest with
 |nil =>intro i v3 a b;have hb:=aK a;unfold fF;exact Vz (VB (show xf (nv v0 v3 (i:Int)) (.exit 0) (o9 v3)from RP [V5 (v0.length:Int),.b false] (ALn v0 etS<|AC hb<|AN)) (by intro h;cases h))
 |cons hd rest d =>intro i v3 a b;have hb:=aF a;have e:=aG a b;have c:=au a;have f:=aE a;unfold fF;apply VD;intro g1 g;exact(d (i+1) (v3.set (i:Int).toNat hd) c b).mono fun y j=>by have r:xf (nv v0 v3 (i:Int)) .normal (nv v0 (v3.set (i:Int).toNat hd) (inc (i:Int))):=RP [V5 (v0.length:Int),.b true,.row (etS hd),.row (etS g1),.rows ((v3.set (i:Int).toNat hd).map etS)] (ALn v0 etS<|AC hb<|AR etS f<|AG etS g<|AC (p:=(v3.map etS).set (0+(i:Int).toNat) (aD (etS g1) 0 [tS hd])=(v3.set (i:Int).toNat hd).map etS) (ik (by rfl))<|AN);rw[e]at r;cases y<;>exact VA r j
noncomputable def s9 (a:List Y9):Option ((List Y9)):=
  if 0≤(a.length:Int)∧(a.length:Int)≤(a.length:Int)∧((16:Nat):Int)*(a.length:Int)≤281474976710656∧(a.length:Int)≤4611686018427387904 then if a.length≤9223372036854775807 then(fF a 0 (List.replicate (a.length:Int).toNat ByteArray.empty)).bind fun y=>match y with
   | .x0 b=>(some (b))else none else none
theorem H5 (x0:List Y9):Ans (s9 x0) (fun r=>Does E 124 [.one (V8 1 (x0.map etS))] [(false,[V7 1 (r.map etS)])]):=by
 unfold s9;apply VE;intro d;apply VE;intro b;apply VD;intro y c;replace c:=FE x0 x0 0 (List.replicate (x0.length:Int).toNat ByteArray.empty) rfl b y c;cases y with
 |x0 a =>have e:=c;exact Vz (DP Tryz.f124 [V5 (x0.length:Int),.rows ((List.replicate (x0.length:Int).toNat ByteArray.empty).map etS),.lp (.exit 0) (o9 a)] (ALn x0 etS<|AC d<|AC (p:=List.replicate (x0.length:Int).toNat [tS ByteArray.empty]=(List.replicate (x0.length:Int).toNat ByteArray.empty).map etS) (ov rfl)<|AL e<|AN))
def oK (l:List Y9):List Y9:=l
theorem wO:∀(rest:List Y9)(i:Nat)(v:List Y9),(∀y∈rest,ab.sm y)→v.length=i+rest.length→fF rest i v=some (.x0 (v.take i++rest))
 |[],i,v,_,hv=>by unfold fF;rw[XB (by simp at hv;omega)];simp
 |x::rest,i,v,h,hv=>by
  have a:=h x (by simp);have hi:i<v.length:=by simp at hv;omega
  unfold fF;rw[cp,Wg hi,V9];try rw[Wa a]
  rw[Xv,wO rest (i+1) _ (fun y b=>h y (by simp[b])) (by simp at hv ⊢;omega),ui hi];simp
theorem Hr (a:List Y9)(h:ab.sm a):Does E 124 [.one (V8 1 (a.map etS))] [(false,[V7 1 ((oK a).map etS)])]:=by exact H5 a _ (by unfold s9;rw[Wa (xh 16 (by decide) h.1 rfl),Wa (bM h),wO a 0 _ h.2 (by simp)];simp[oK])
noncomputable def yk (a:GTask):Option (GTask):=if ab.sm a.f4 then some ((GTask.mk a.f0 a.f1 a.f2 a.f3 (oK a.f4)))else none
theorem Pu (a:GTask):Ans (yk a) (fun r=>Does E 111 [.agg (VQ .far a)] [(true,VQ .own r)]):=by unfold yk;apply VE;intro b;exact Vz (DP Tryz.f111 [.ret [(false,[V7 1 ((oK a.f4).map etS)])]] (AD (Hr a.f4 b)<|AN))
def eK (x:GTask):GTask:=x
theorem Om (a:GTask)(h:ab.sm a):Does E 111 [.agg (VQ .far a)] [(true,VQ .own (eK a))]:=by
 obtain⟨w0,b,c⟩:=h;exact Pu a _ (by
  unfold yk;repeat rw[Wa (by assumption)]
  rfl)
inductive AW where|x0 (v3:List GTask)
def qy (q0:Kd)(v0 v3:List GTask)(v4:Int):US:=stL 23 [(0,.one (V8 5 (v0.map (VQ q0)))),(3,.one (V7 5 (v3.map (VQ .own)))),(4,V2 v4)]
def rq (q0:Kd)(a:List GTask):US:=stL 23 [(3,.one (V7 5 (a.map (VQ .own))))]
abbrev AU:US→Exit→US→Prop:=Round E 91 (an Tryz.f91 0)
def Kv {q0:Kd}(v0 v3:List GTask)(v4:Int):AW→Prop| .x0 a=>Loops E 91 (an Tryz.f91 0) (qy q0 v0 v3 v4) (.exit 0) (rq q0 a)
noncomputable def hZ  : List GTask→Nat→(List GTask)→Option AW|[],i,v3=>some (.x0 v3)|hd::rest,i,v3=>if ab.sm hd then(ak v3 (i:Int)).bind fun g1=>hZ rest (i+1) (v3.set (i:Int).toNat (eK hd))else none
theorem Ku {q0:Kd}(v0:List GTask)(rest:List GTask):∀(i:Nat)(v3:List GTask),(v0).drop i=rest→v0.length≤9223372036854775807→Ans (hZ rest i v3) (Kv (q0:=q0) v0 v3 (i:Int)):=by
 induction rest with
 |nil =>intro i v3 a b;have hb:=aK a;unfold hZ;exact Vz (VB (show AU (qy q0 v0 v3 (i:Int)) (.exit 0) (rq q0 v3)from RP [V5 (v0.length:Int),.b false] (ALn v0 (VQ q0)<|AC hb<|AN)) (by intro h;cases h))
 |cons hd rest d =>intro i v3 a b;have hb:=aF a;have e:=aG a b;have c:=au a;have f:=aE a;unfold hZ;apply VE;intro g;apply VD;intro g1 j;exact(d (i+1) (v3.set (i:Int).toNat (eK hd)) c b).mono fun y k=>by have r:AU (qy q0 v0 v3 (i:Int)) .normal (qy q0 v0 (v3.set (i:Int).toNat (eK hd)) (inc (i:Int))):=RP [V5 (v0.length:Int),.b true,.row ((VQ q0) hd),.ret [(true,VQ .own (eK hd))],.row ((VQ .own) g1),.rows ((v3.set (i:Int).toNat (eK hd)).map (VQ .own))] (ALn v0 (VQ q0)<|AC hb<|AR (VQ q0) f<|AD (Om hd g)<|AG (VQ .own) j<|AC (p:=(v3.map (VQ .own)).set (0+(i:Int).toNat) (aD ((VQ .own) g1) 0 [tS ((eK hd).f0),tS ((eK hd).f1),tI ((eK hd).f2),tB ((eK hd).f3),V7 1 (((eK hd).f4).map etS)])=(v3.set (i:Int).toNat (eK hd)).map (VQ .own)) (ik (by rfl))<|AN);rw[e]at r;cases y<;>exact VA r k
noncomputable def wu (a:List GTask):Option ((List GTask)):=
  if 0≤(a.length:Int)∧(a.length:Int)≤(a.length:Int)∧((72:Nat):Int)*(a.length:Int)≤281474976710656∧(a.length:Int)≤4611686018427387904 then if a.length≤9223372036854775807 then(hZ a 0 (List.replicate (a.length:Int).toNat (GTask.mk ByteArray.empty ByteArray.empty 0 false ([]:List Y9)))).bind fun y=>match y with
   | .x0 b=>(some (b))else none else none
theorem MT {q0:Kd}(x0:List GTask):Ans (wu x0) (fun r=>Does E 91 [.one (V8 5 (x0.map (VQ q0)))] [(false,[V7 5 (r.map (VQ .own))])]):=by
 unfold wu;apply VE;intro d;apply VE;intro b;apply VD;intro y c;replace c:=Ku (q0:=q0) x0 x0 0 (List.replicate (x0.length:Int).toNat (GTask.mk ByteArray.empty ByteArray.empty 0 false ([]:List Y9))) rfl b y c;cases y with
 |x0 a =>have e:=c;exact Vz (DP Tryz.f91 [V5 (x0.length:Int),.rows ((List.replicate (x0.length:Int).toNat (GTask.mk ByteArray.empty ByteArray.empty 0 false ([]:List Y9))).map (VQ .own)),.lp (.exit 0) (rq q0 a)] (ALn x0 (VQ q0)<|AC d<|AC (p:=List.replicate (x0.length:Int).toNat [tS ByteArray.empty,tS ByteArray.empty,tI 0,tB false,V7 1 (([]:List Y9).map etS)]=(List.replicate (x0.length:Int).toNat (GTask.mk ByteArray.empty ByteArray.empty 0 false ([]:List Y9))).map (VQ .own)) (ov rfl)<|AL e<|AN))
def l3 (l:List GTask):List GTask:=l
theorem zS:∀(rest:List GTask)(i:Nat)(v:List GTask),(∀y∈rest,ab.sm y)→v.length=i+rest.length→hZ rest i v=some (.x0 (v.take i++rest))
 |[],i,v,_,hv=>by unfold hZ;rw[XB (by simp at hv;omega)];simp
 |x::rest,i,v,h,hv=>by
  have a:=h x (by simp);have hi:i<v.length:=by simp at hv;omega
  unfold hZ;rw[cp,Wg hi,V9];try rw[Wa a]
  rw[Xv,zS rest (i+1) _ (fun y b=>h y (by simp[b])) (by simp at hv ⊢;omega),ui hi];simp[eK]
theorem LS {q0:Kd}(a:List GTask)(h:ab.sm a):Does E 91 [.one (V8 5 (a.map (VQ q0)))] [(false,[V7 5 ((l3 a).map (VQ .own))])]:=by exact MT a _ (by unfold wu;rw[Wa (xh 72 (by decide) h.1 rfl),Wa (bM h),zS a 0 _ h.2 (by simp)];simp[l3])
noncomputable def AP (a:LDag):Option (GDag):=if ab.sm a.f5 then some ((GDag.mk a.f0 a.f1 a.f2 a.f3 a.f4 (l3 a.f5)))else none
theorem Q9 {q0:Kd}(a:LDag):Ans (AP a) (fun r=>Does E 63 [.agg (VU .far q0 a)] [(true,VK .own .own r)]):=by unfold AP;apply VE;intro b;exact Vz (DP Tryz.f63 [.ret [(false,[V7 5 ((l3 a.f5).map (VQ .own))])]] (AV (ψ:=fun k=>E.C k 91 [.one (V8 5 (a.f5.map (VQ q0)))]=some [(false,[V7 5 ((l3 a.f5).map (VQ .own))])]) (LS a.f5 b)<|AN))
def pB (x:LDag):GDag:=⟨x.f0,x.f1,x.f2,x.f3,x.f4,l3 x.f5⟩
theorem P3 {x:LDag}(h:ab.sm x):ab.sm (pB x):=by obtain⟨w0,a,b⟩:=h;exact⟨w0,a,b⟩
theorem Qh {q0:Kd}(a:LDag)(h:ab.sm a):Does E 63 [.agg (VU .far q0 a)] [(true,VK .own .own (pB a))]:=by
 obtain⟨w0,b,c⟩:=h;exact Q9 a _ (by
  unfold AP;repeat rw[Wa (by assumption)]
  rfl)
noncomputable def yh (a:LPlan):Option (GPlan):=if ab.sm a.f0 then some ((GPlan.mk (pB a.f0) a.f1 a.f2 a.f3))else none
theorem Pq {q0:Kd}(a:LPlan):Ans (yh a) (fun r=>Does E 37 [.agg (VV .far q0 a)] [(true,VL .own .own r)]):=by unfold yh;apply VE;intro b;exact Vz (DP Tryz.f37 [.ret [(true,VK .own .own (pB a.f0))]] (AV (ψ:=fun k=>E.C k 63 [.agg (VU .far q0 a.f0)]=some [(true,VK .own .own (pB a.f0))]) (Qh a.f0 b)<|AN))
def cg (x:LPlan):GPlan:=⟨pB x.f0,x.f1,x.f2,x.f3⟩
theorem Nx {x:LPlan}(h:ab.sm x):ab.sm (cg x):=by have w0:ab.sm x.f0:=h;exact(P3 w0)
theorem Oj {q0:Kd}(a:LPlan)(h:ab.sm a):Does E 37 [.agg (VV .far q0 a)] [(true,VL .own .own (cg a))]:=by
 have w0:ab.sm a.f0:=h;exact Pq a _ (by
  unfold yh;repeat rw[Wa (by assumption)]
  rfl)
inductive AS where|x0 (v3:List GPlan)
def qw (q0:Kd)(v0:List LPlan)(v3:List GPlan)(v4:Int):US:=stL 23 [(0,.one (V8 9 (v0.map (VV q0 q0)))),(3,.one (V7 9 (v3.map (VL .own .own)))),(4,V2 v4)]
def ro (q0:Kd)(a:List GPlan):US:=stL 23 [(3,.one (V7 9 (a.map (VL .own .own))))]
abbrev AQ:US→Exit→US→Prop:=Round E 15 (an Tryz.f15 0)
def Ks {q0:Kd}(v0:List LPlan)(v3:List GPlan)(v4:Int):AS→Prop| .x0 a=>Loops E 15 (an Tryz.f15 0) (qw q0 v0 v3 v4) (.exit 0) (ro q0 a)
noncomputable def hY  : List LPlan→Nat→(List GPlan)→Option AS|[],i,v3=>some (.x0 v3)|hd::rest,i,v3=>if ab.sm hd then(ak v3 (i:Int)).bind fun g1=>hY rest (i+1) (v3.set (i:Int).toNat (cg hd))else none
theorem Kr {q0:Kd}(v0:List LPlan)(rest:List LPlan):∀(i:Nat)(v3:List GPlan),(v0).drop i=rest→v0.length≤9223372036854775807→Ans (hY rest i v3) (Ks (q0:=q0) v0 v3 (i:Int)):=by
 induction rest with
 |nil =>intro i v3 a b;have hb:=aK a;unfold hY;exact Vz (VB (show AQ (qw q0 v0 v3 (i:Int)) (.exit 0) (ro q0 v3)from RP [V5 (v0.length:Int),.b false] (ALn v0 (VV q0 q0)<|AC hb<|AN)) (by intro h;cases h))
 |cons hd rest d =>intro i v3 a b;have hb:=aF a;have e:=aG a b;have c:=au a;have f:=aE a;unfold hY;apply VE;intro g;apply VD;intro g1 j;exact(d (i+1) (v3.set (i:Int).toNat (cg hd)) c b).mono fun y l=>by have r:AQ (qw q0 v0 v3 (i:Int)) .normal (qw q0 v0 (v3.set (i:Int).toNat (cg hd)) (inc (i:Int))):=RP [V5 (v0.length:Int),.b true,.row ((VV q0 q0) hd),.ret [(true,VL .own .own (cg hd))],.row ((VL .own .own) g1),.rows ((v3.set (i:Int).toNat (cg hd)).map (VL .own .own))] (ALn v0 (VV q0 q0)<|AC hb<|AR (VV q0 q0) f<|AV (ψ:=fun k=>E.C k 37 [.agg (VV .far q0 hd)]=some [(true,VL .own .own (cg hd))]) (Oj hd g)<|AG (VL .own .own) j<|AC (p:=(v3.map (VL .own .own)).set (0+(i:Int).toNat) (aD ((VL .own .own) g1) 0 [tS (((cg hd).f0).f0),tS (((cg hd).f0).f1),tI (((cg hd).f0).f2),tI (((cg hd).f0).f3),tB (((cg hd).f0).f4),V7 5 ((((cg hd).f0).f5).map (VQ .own)),tB ((cg hd).f1),tI ((cg hd).f2),tI ((cg hd).f3)])=(v3.set (i:Int).toNat (cg hd)).map (VL .own .own)) (ik (by rfl))<|AN);rw[e]at r;cases y<;>exact VA r l
noncomputable def wr (a:List LPlan):Option ((List GPlan)):=
  if 0≤(a.length:Int)∧(a.length:Int)≤(a.length:Int)∧((104:Nat):Int)*(a.length:Int)≤281474976710656∧(a.length:Int)≤4611686018427387904 then if a.length≤9223372036854775807 then(hY a 0 (List.replicate (a.length:Int).toNat (GPlan.mk (GDag.mk ByteArray.empty ByteArray.empty 0 0 false ([]:List GTask)) false 0 0))).bind fun y=>match y with
   | .x0 b=>(some (b))else none else none
theorem MP {q0:Kd}(x0:List LPlan):Ans (wr x0) (fun r=>Does E 15 [.one (V8 9 (x0.map (VV q0 q0)))] [(false,[V7 9 (r.map (VL .own .own))])]):=by
 unfold wr;apply VE;intro d;apply VE;intro b;apply VD;intro y c;replace c:=Kr (q0:=q0) x0 x0 0 (List.replicate (x0.length:Int).toNat (GPlan.mk (GDag.mk ByteArray.empty ByteArray.empty 0 0 false ([]:List GTask)) false 0 0)) rfl b y c;cases y with
 |x0 a =>have e:=c;exact Vz (DP Tryz.f15 [V5 (x0.length:Int),.rows ((List.replicate (x0.length:Int).toNat (GPlan.mk (GDag.mk ByteArray.empty ByteArray.empty 0 0 false ([]:List GTask)) false 0 0)).map (VL .own .own)),.lp (.exit 0) (ro q0 a)] (ALn x0 (VV q0 q0)<|AC d<|AC (p:=List.replicate (x0.length:Int).toNat [tS ByteArray.empty,tS ByteArray.empty,tI 0,tI 0,tB false,V7 5 (([]:List GTask).map (VQ .own)),tB false,tI 0,tI (0:Int)]=(List.replicate (x0.length:Int).toNat (GPlan.mk (GDag.mk ByteArray.empty ByteArray.empty 0 0 false ([]:List GTask)) false 0 0)).map (VL .own .own)) (ov rfl)<|AL e<|AN))
def jb (l:List LPlan):List GPlan:=l.map cg
theorem zR:∀(rest:List LPlan)(i:Nat)(v:List GPlan),(∀y∈rest,ab.sm y)→v.length=i+rest.length→hY rest i v=some (.x0 (v.take i++rest.map cg))
 |[],i,v,_,hv=>by unfold hY;rw[XB (by simp at hv;omega)];simp
 |x::rest,i,v,h,hv=>by
  have a:=h x (by simp);have hi:i<v.length:=by simp at hv;omega
  unfold hY;rw[cp,Wg hi,V9];try rw[Wa a]
  rw[Xv,zR rest (i+1) _ (fun y b=>h y (by simp[b])) (by simp at hv ⊢;omega),ui hi];simp
theorem Lv {l:List LPlan}(h:ab.sm l):ab.sm (jb l):=⟨by unfold jb;rw[WH];exact h.1,fun y a=>by obtain⟨x,b,rfl⟩:=Wx.1 a;exact Nx (h.2 x b)⟩
theorem LQ {q0:Kd}(a:List LPlan)(h:ab.sm a):Does E 15 [.one (V8 9 (a.map (VV q0 q0)))] [(false,[V7 9 ((jb a).map (VL .own .own))])]:=by exact MP a _ (by unfold wr;rw[Wa (xh 104 (by decide) h.1 rfl),Wa (bM h),zR a 0 _ h.2 (by simp)];simp[jb])
noncomputable def yj (a:GSpan):Option (GSpan):=some (a)
theorem Pt (a:GSpan):Ans (yj a) (fun r=>Does E 64 [.agg (VO a)] [(true,VO r)]):=by unfold yj;exact Vz (DP Tryz.f64 [] AN)
def tT (x:GSpan):GSpan:=x
theorem Ol (a:GSpan)(h:ab.sm a):Does E 64 [.agg (VO a)] [(true,VO (tT a))]:=by
 skip
 exact Pt a _ (by
  unfold yj;repeat rw[Wa (by assumption)]
  rfl)
noncomputable def wt (a:GState):Option (GState):=some (a)
theorem MS (a:GState):Ans (wt a) (fun r=>Does E 92 [.agg (VP a)] [(true,VP r)]):=by unfold wt;exact Vz (DP Tryz.f92 [] AN)
def eF (x:GState):GState:=x
theorem LR (a:GState)(h:ab.sm a):Does E 92 [.agg (VP a)] [(true,VP (eF a))]:=by
 skip
 exact MS a _ (by
  unfold wt;repeat rw[Wa (by assumption)]
  rfl)
inductive y6 where|x0 (v3:List GState)
def oH (v0 v3:List GState)(v4:Int):US:=stL 23 [(0,.one (V8 4 (v0.map VP))),(3,.one (V7 4 (v3.map VP))),(4,V2 v4)]
def qx (a:List GState):US:=stL 23 [(3,.one (V7 4 (a.map VP)))]
abbrev y5:US→Exit→US→Prop:=Round E 65 (an Tryz.f65 0)
def H4 (v0 v3:List GState)(v4:Int):y6→Prop| .x0 a=>Loops E 65 (an Tryz.f65 0) (oH v0 v3 v4) (.exit 0) (qx a)
noncomputable def gq  : List GState→Nat→(List GState)→Option y6|[],i,v3=>some (.x0 v3)|hd::rest,i,v3=>if ab.sm hd then(ak v3 (i:Int)).bind fun g1=>gq rest (i+1) (v3.set (i:Int).toNat (eF hd))else none
theorem H3 (v0:List GState)(rest:List GState):∀(i:Nat)(v3:List GState),(v0).drop i=rest→v0.length≤9223372036854775807→Ans (gq rest i v3) (H4 v0 v3 (i:Int)):=by
 induction rest with
 |nil =>intro i v3 a b;have hb:=aK a;unfold gq;exact Vz (VB (show y5 (oH v0 v3 (i:Int)) (.exit 0) (qx v3)from RP [V5 (v0.length:Int),.b false] (ALn v0 VP<|AC hb<|AN)) (by intro h;cases h))
 |cons hd rest d =>intro i v3 a b;have hb:=aF a;have e:=aG a b;have c:=au a;have f:=aE a;unfold gq;apply VE;intro g;apply VD;intro g1 j;exact(d (i+1) (v3.set (i:Int).toNat (eF hd)) c b).mono fun y k=>by have r:y5 (oH v0 v3 (i:Int)) .normal (oH v0 (v3.set (i:Int).toNat (eF hd)) (inc (i:Int))):=RP [V5 (v0.length:Int),.b true,.row (VP hd),.ret [(true,VP (eF hd))],.row (VP g1),.rows ((v3.set (i:Int).toNat (eF hd)).map VP)] (ALn v0 VP<|AC hb<|AR VP f<|AD (LR hd g)<|AG VP j<|AC (p:=(v3.map VP).set (0+(i:Int).toNat) (aD (VP g1) 0 [tI ((eF hd).f0),tI ((eF hd).f1),tI ((eF hd).f2),tI ((eF hd).f3)])=(v3.set (i:Int).toNat (eF hd)).map VP) (ik (by rfl))<|AN);rw[e]at r;cases y<;>exact VA r k
noncomputable def uK (a:List GState):Option ((List GState)):=
  if 0≤(a.length:Int)∧(a.length:Int)≤(a.length:Int)∧((32:Nat):Int)*(a.length:Int)≤281474976710656∧(a.length:Int)≤4611686018427387904 then if a.length≤9223372036854775807 then(gq a 0 (List.replicate (a.length:Int).toNat (GState.mk 0 0 0 0))).bind fun y=>match y with
   | .x0 b=>(some (b))else none else none
theorem Kt (x0:List GState):Ans (uK x0) (fun r=>Does E 65 [.one (V8 4 (x0.map VP))] [(false,[V7 4 (r.map VP)])]):=by
 unfold uK;apply VE;intro d;apply VE;intro b;apply VD;intro y c;replace c:=H3 x0 x0 0 (List.replicate (x0.length:Int).toNat (GState.mk 0 0 0 0)) rfl b y c;cases y with
 |x0 a =>have e:=c;exact Vz (DP Tryz.f65 [V5 (x0.length:Int),.rows ((List.replicate (x0.length:Int).toNat (GState.mk 0 0 0 0)).map VP),.lp (.exit 0) (qx a)] (ALn x0 VP<|AC d<|AC (p:=List.replicate (x0.length:Int).toNat [tI 0,tI 0,tI 0,tI (0:Int)]=(List.replicate (x0.length:Int).toNat (GState.mk 0 0 0 0)).map VP) (ov rfl)<|AL e<|AN))
def mS (l:List GState):List GState:=l
theorem yM:∀(rest:List GState)(i:Nat)(v:List GState),(∀y∈rest,ab.sm y)→v.length=i+rest.length→gq rest i v=some (.x0 (v.take i++rest))
 |[],i,v,_,hv=>by unfold gq;rw[XB (by simp at hv;omega)];simp
 |x::rest,i,v,h,hv=>by
  have a:=h x (by simp);have hi:i<v.length:=by simp at hv;omega
  unfold gq;rw[cp,Wg hi,V9];try rw[Wa a]
  rw[Xv,yM rest (i+1) _ (fun y b=>h y (by simp[b])) (by simp at hv ⊢;omega),ui hi];simp[eF]
theorem Jc (a:List GState)(h:ab.sm a):Does E 65 [.one (V8 4 (a.map VP))] [(false,[V7 4 ((mS a).map VP)])]:=by exact Kt a _ (by unfold uK;rw[Wa (xh 32 (by decide) h.1 rfl),Wa (bM h),yM a 0 _ h.2 (by simp)];simp[mS])
noncomputable def AT (a:LRun):Option (GRun):=if ab.sm a.f1 then if ab.sm a.f3 then some ((GRun.mk a.f0 (tT a.f1) a.f2 (mS a.f3)))else none else none
theorem Ra (a:LRun):Ans (AT a) (fun r=>Does E 38 [.agg (VW .far a)] [(true,VM .own r)]):=by unfold AT;apply VE;intro b;apply VE;intro c;exact Vz (DP Tryz.f38 [.ret [(true,VO (tT a.f1))],.ret [(false,[V7 4 ((mS a.f3).map VP)])]] (AD (Ol a.f1 b)<|AD (Jc a.f3 c)<|AN))
def ey (x:LRun):GRun:=⟨x.f0,tT x.f1,x.f2,mS x.f3⟩
theorem P4 {x:LRun}(h:ab.sm x):ab.sm (ey x):=by obtain⟨w0,a,b⟩:=h;exact⟨w0,a,b⟩
theorem Qi (a:LRun)(h:ab.sm a):Does E 38 [.agg (VW .far a)] [(true,VM .own (ey a))]:=by
 obtain⟨w0,b,c⟩:=h;exact Ra a _ (by
  unfold AT;repeat rw[Wa (by assumption)]
  rfl)
inductive Ch where|x0 (v3:List GRun)
def rV (q0:Kd)(v0:List LRun)(v3:List GRun)(v4:Int):US:=stL 23 [(0,.one (V8 5 (v0.map (VW q0)))),(3,.one (V7 5 (v3.map (VM .own)))),(4,V2 v4)]
def s7 (q0:Kd)(a:List GRun):US:=stL 23 [(3,.one (V7 5 (a.map (VM .own))))]
abbrev Cg:US→Exit→US→Prop:=Round E 16 (an Tryz.f16 0)
def MR {q0:Kd}(v0:List LRun)(v3:List GRun)(v4:Int):Ch→Prop| .x0 a=>Loops E 16 (an Tryz.f16 0) (rV q0 v0 v3 v4) (.exit 0) (s7 q0 a)
noncomputable def i8  : List LRun→Nat→(List GRun)→Option Ch|[],i,v3=>some (.x0 v3)|hd::rest,i,v3=>if ab.sm hd then(ak v3 (i:Int)).bind fun g1=>i8 rest (i+1) (v3.set (i:Int).toNat (ey hd))else none
theorem MQ {q0:Kd}(v0:List LRun)(rest:List LRun):∀(i:Nat)(v3:List GRun),(v0).drop i=rest→v0.length≤9223372036854775807→Ans (i8 rest i v3) (MR (q0:=q0) v0 v3 (i:Int)):=by
 induction rest with
 |nil =>intro i v3 a b;have hb:=aK a;unfold i8;exact Vz (VB (show Cg (rV q0 v0 v3 (i:Int)) (.exit 0) (s7 q0 v3)from RP [V5 (v0.length:Int),.b false] (ALn v0 (VW q0)<|AC hb<|AN)) (by intro h;cases h))
 |cons hd rest d =>intro i v3 a b;have hb:=aF a;have e:=aG a b;have c:=au a;have f:=aE a;unfold i8;apply VE;intro g;apply VD;intro g1 j;exact(d (i+1) (v3.set (i:Int).toNat (ey hd)) c b).mono fun y k=>by have r:Cg (rV q0 v0 v3 (i:Int)) .normal (rV q0 v0 (v3.set (i:Int).toNat (ey hd)) (inc (i:Int))):=RP [V5 (v0.length:Int),.b true,.row ((VW q0) hd),.ret [(true,VM .own (ey hd))],.row ((VM .own) g1),.rows ((v3.set (i:Int).toNat (ey hd)).map (VM .own))] (ALn v0 (VW q0)<|AC hb<|AR (VW q0) f<|AD (Qi hd g)<|AG (VM .own) j<|AC (p:=(v3.map (VM .own)).set (0+(i:Int).toNat) (aD ((VM .own) g1) 0 [tS ((ey hd).f0),tI (((ey hd).f1).f0),tI (((ey hd).f1).f1),tI ((ey hd).f2),V7 4 (((ey hd).f3).map VP)])=(v3.set (i:Int).toNat (ey hd)).map (VM .own)) (ik (by rfl))<|AN);rw[e]at r;cases y<;>exact VA r k
noncomputable def yi (a:List LRun):Option ((List GRun)):=
  if 0≤(a.length:Int)∧(a.length:Int)≤(a.length:Int)∧((64:Nat):Int)*(a.length:Int)≤281474976710656∧(a.length:Int)≤4611686018427387904 then if a.length≤9223372036854775807 then(i8 a 0 (List.replicate (a.length:Int).toNat (GRun.mk ByteArray.empty (GSpan.mk 0 0) 0 ([]:List GState)))).bind fun y=>match y with
   | .x0 b=>(some (b))else none else none
theorem Ps {q0:Kd}(x0:List LRun):Ans (yi x0) (fun r=>Does E 16 [.one (V8 5 (x0.map (VW q0)))] [(false,[V7 5 (r.map (VM .own))])]):=by
 unfold yi;apply VE;intro d;apply VE;intro b;apply VD;intro y c;replace c:=MQ (q0:=q0) x0 x0 0 (List.replicate (x0.length:Int).toNat (GRun.mk ByteArray.empty (GSpan.mk 0 0) 0 ([]:List GState))) rfl b y c;cases y with
 |x0 a =>have e:=c;exact Vz (DP Tryz.f16 [V5 (x0.length:Int),.rows ((List.replicate (x0.length:Int).toNat (GRun.mk ByteArray.empty (GSpan.mk 0 0) 0 ([]:List GState))).map (VM .own)),.lp (.exit 0) (s7 q0 a)] (ALn x0 (VW q0)<|AC d<|AC (p:=List.replicate (x0.length:Int).toNat [tS ByteArray.empty,tI 0,tI 0,tI 0,V7 4 (([]:List GState).map VP)]=(List.replicate (x0.length:Int).toNat (GRun.mk ByteArray.empty (GSpan.mk 0 0) 0 ([]:List GState))).map (VM .own)) (ov rfl)<|AL e<|AN))
def kk (l:List LRun):List GRun:=l.map ey
theorem BW:∀(rest:List LRun)(i:Nat)(v:List GRun),(∀y∈rest,ab.sm y)→v.length=i+rest.length→i8 rest i v=some (.x0 (v.take i++rest.map ey))
 |[],i,v,_,hv=>by unfold i8;rw[XB (by simp at hv;omega)];simp
 |x::rest,i,v,h,hv=>by
  have a:=h x (by simp);have hi:i<v.length:=by simp at hv;omega
  unfold i8;rw[cp,Wg hi,V9];try rw[Wa a]
  rw[Xv,BW rest (i+1) _ (fun y b=>h y (by simp[b])) (by simp at hv ⊢;omega),ui hi];simp
theorem Ny {l:List LRun}(h:ab.sm l):ab.sm (kk l):=⟨by unfold kk;rw[WH];exact h.1,fun y a=>by obtain⟨x,b,rfl⟩:=Wx.1 a;exact P4 (h.2 x b)⟩
theorem Ok {q0:Kd}(a:List LRun)(h:ab.sm a):Does E 16 [.one (V8 5 (a.map (VW q0)))] [(false,[V7 5 ((kk a).map (VM .own))])]:=by exact Ps a _ (by unfold yi;rw[Wa (xh 64 (by decide) h.1 rfl),Wa (bM h),BW a 0 _ h.2 (by simp)];simp[kk])
noncomputable def wq (a:LBoard):Option (GBoard):=if ab.sm a.f0 then if ab.sm a.f1 then if ab.sm a.f2 then some ((GBoard.mk (kR a.f0) (jb a.f1) (kk a.f2) a.f3 a.f4))else none else none else none
theorem MO {q0:Kd}(a:LBoard):Ans (wq a) (fun r=>Does E 6 [.agg (VR .far q0 a)] [(true,VI .own .own r)]):=by unfold wq;apply VE;intro b;apply VE;intro c;apply VE;intro d;exact Vz (DP Tryz.f6 [.ret [(false,[V7 3 ((kR a.f0).map VN)])],.ret [(false,[V7 9 ((jb a.f1).map (VL .own .own))])],.ret [(false,[V7 5 ((kk a.f2).map (VM .own))])]] (AD (Fa a.f0 b)<|AV (ψ:=fun k=>E.C k 15 [.one (V8 9 (a.f1.map (VV q0 q0)))]=some [(false,[V7 9 ((jb a.f1).map (VL .own .own))])]) (LQ a.f1 c)<|AV (ψ:=fun k=>E.C k 16 [.one (V8 5 (a.f2.map (VW q0)))]=some [(false,[V7 5 ((kk a.f2).map (VM .own))])]) (Ok a.f2 d)<|AN))
def ah (x:LBoard):GBoard:=⟨kR x.f0,jb x.f1,kk x.f2,x.f3,x.f4⟩
theorem Lu {x:LBoard}(h:ab.sm x):ab.sm (ah x):=by obtain⟨w0,a,b⟩:=h;exact⟨w0,(Lv a),(Ny b)⟩
theorem eC {q0:Kd}(a:LBoard)(h:ab.sm a):Does E 6 [.agg (VR .far q0 a)] [(true,VI .own .own (ah a))]:=by
 obtain⟨w0,b,c⟩:=h;exact MO a _ (by
  unfold wq;repeat rw[Wa (by assumption)]
  rfl)
noncomputable def sX (a b:GSession):Option (Bool):=cond (a.f0 != b.f0) (some (false)) (cond (a.f1 != b.f1) (some (false)) (cond (!(a.f2.toList==b.f2.toList)) (some (false)) (some (true))))
theorem HV (c d:GSession):Ans (sX c d) (fun r=>Does E 52 [.agg (VN c),.agg (VN d)] [VY r]):=by
 unfold sX;apply VC<;>intro a
 ·exact Vz (DP Tryz.f52 [.b true] (AC a<|AN))
 ·apply VC<;>intro b
  ·exact Vz (DP Tryz.f52 [.b false,.b true] (AC a<|AC b<|AN))
  ·apply VC<;>intro e
   ·exact Vz (DP Tryz.f52 [.b false,.b false,.b true] (AC a<|AC b<|AC e<|AN))
   ·exact Vz (DP Tryz.f52 [.b false,.b false,.b false] (AC a<|AC b<|AC e<|AN))
theorem yG (a:GSession)(b:GSession)(e:a=b)(h:ab.sm a):Does E 52 [.agg (VN a),.agg (VN b)] [VY (yes a b)]:=by subst e;have c:ab.sm a.f2:=h;exact HV a a _ (by unfold sX;simp only[WN,yes,W9,Yc,Xd,Wu,Wn])
inductive vC where|ret (v4:Bool)|x0
def iz (v0 v1:List GSession)(v5:Int):US:=stL 27 [(0,.one (V8 3 (v0.map VN))),(1,.one (V8 3 (v1.map VN))),(5,V2 v5)]
def mP (a:Bool):US:=stL 27 [(4,V3 a)]
def nX  : US:=stL 27 []
abbrev qo:US→Exit→US→Prop:=Round E 19 (an Tryz.f19 0)
def El (v0 v1:List GSession)(v5:Int):vC→Prop| .ret a=>Loops E 19 (an Tryz.f19 0) (iz v0 v1 v5) .ret (mP a)| .x0=>Loops E 19 (an Tryz.f19 0) (iz v0 v1 v5) (.exit 0) (nX)
noncomputable def fV (v1:List GSession):List GSession→Nat→Option vC|[],i=>some (.x0)|hd::rest,i=>(ak v1 (i:Int)).bind fun g1=>if hd=g1 then if ab.sm hd then cond (yes hd g1) (fV v1 rest (i+1)) (some (.ret false))else none else none
theorem Ek (v0 v1:List GSession)(rest:List GSession):∀(i:Nat) ,(v0).drop i=rest→v0.length≤9223372036854775807→Ans (fV v1 rest i) (El v0 v1 (i:Int)):=by
 induction rest with
 |nil =>intro i a b;have hb:=aK a;unfold fV;exact Vz (VB (show qo (iz v0 v1 (i:Int)) (.exit 0) (nX)from RP [V5 (v0.length:Int),.b false] (ALn v0 VN<|AC hb<|AN)) (by intro h;cases h))
 |cons hd rest k =>
  intro i a b;have hb:=aF a;have l:=aG a b;have c:=au a;have d:=aE a;unfold fV;apply VD;intro g1 e;apply VE;intro f;apply VE;intro g;apply VC<;>intro j
  ·exact(k (i+1) c b).mono fun y m=>by have r:qo (iz v0 v1 (i:Int)) .normal (iz v0 v1 (inc (i:Int))):=RP [V5 (v0.length:Int),.b true,.row (VN hd),.row (VN g1),rT] (ALn v0 VN<|AC hb<|AR VN d<|AR VN e<|AD (VH (yG hd g1 f g) j)<|AN);rw[l]at r;cases y<;>exact VA r m
  ·exact Vz (VB (show qo (iz v0 v1 (i:Int)) .ret (mP false)from RP [V5 (v0.length:Int),.b true,.row (VN hd),.row (VN g1),rF] (ALn v0 VN<|AC hb<|AR VN d<|AR VN e<|AD (VH (yG hd g1 f g) j)<|AN)) (by intro h;cases h))
noncomputable def rh (b c:List GSession):Option (Bool):=
  cond ((b.length:Int) != (c.length:Int))
   (some (false))
   (if b.length≤9223372036854775807 then(fV c b 0).bind fun y=>match y with
    | .ret a=>(some (a))
    | .x0=>(some (true))else none)
theorem Fx (x0 a:List GSession):Ans (rh x0 a) (fun r=>Does E 19 [.one (V8 3 (x0.map VN)),.one (V8 3 (a.map VN))] [VY r]):=by
 unfold rh;apply VC<;>intro d
 ·exact Vz (DP Tryz.f19 [V5 (x0.length:Int),V5 (a.length:Int),.b true] (ALn x0 VN<|ALn a VN<|AC d<|AN))
 ·apply VE;intro e;apply VD;intro y c;replace c:=Ek x0 a x0 0 rfl e y c;cases y with
  |ret b =>have f:=c;exact Vz (DP Tryz.f19 [V5 (x0.length:Int),V5 (a.length:Int),.b false,.lp .ret (mP b)] (ALn x0 VN<|ALn a VN<|AC d<|AL f<|AN))
  |x0 =>have f:=c;exact Vz (DP Tryz.f19 [V5 (x0.length:Int),V5 (a.length:Int),.b false,.lp (.exit 0) (nX)] (ALn x0 VN<|ALn a VN<|AC d<|AL f<|AN))
theorem vn (l:List GSession):∀(rest:List GSession)(i:Nat),l.drop i=rest→(∀y∈rest,ab.sm y)→fV l rest i=some .x0
 |[],i,_,_=>rfl
 |x::rest,i,a,h=>by have b:=h x (by simp);unfold fV;rw[aE a,V9];simp only[b,WN,yes,W9,Yc,Xd,Wu,Wn];exact vn l rest (i+1) (au a) (fun y c=>h y (by simp[c]))
theorem jg (a:List GSession)(b:List GSession)(e:a=b)(h:ab.sm a):Does E 19 [.one (V8 3 (a.map VN)),.one (V8 3 (b.map VN))] [VY (yes a b)]:=by subst e;exact Fx a a _ (by unfold rh;rw[Wa (bM h),vn a a 0 rfl h.2];simp[yes])
inductive xd where|ret (v4:Bool)|x0
def jm (v0 v1:List Y9)(v5:Int):US:=stL 26 [(0,.one (V8 1 (v0.map etS))),(1,.one (V8 1 (v1.map etS))),(5,V2 v5)]
def nY (a:Bool):US:=stL 26 [(4,V3 a)]
def o7  : US:=stL 26 []
abbrev ri:US→Exit→US→Prop:=Round E 134 (an Tryz.f134 0)
def Fz (v0 v1:List Y9)(v5:Int):xd→Prop| .ret a=>Loops E 134 (an Tryz.f134 0) (jm v0 v1 v5) .ret (nY a)| .x0=>Loops E 134 (an Tryz.f134 0) (jm v0 v1 v5) (.exit 0) (o7)
noncomputable def gI (v1:List Y9):List Y9→Nat→Option xd|[],i=>some (.x0)|hd::rest,i=>(ak v1 (i:Int)).bind fun g1=>cond (!(hd.toList==g1.toList)) (some (.ret false)) (gI v1 rest (i+1))
theorem Fy (v0 v1:List Y9)(rest:List Y9):∀(i:Nat) ,(v0).drop i=rest→v0.length≤9223372036854775807→Ans (gI v1 rest i) (Fz v0 v1 (i:Int)):=by
 induction rest with
 |nil =>intro i a b;have hb:=aK a;unfold gI;exact Vz (VB (show ri (jm v0 v1 (i:Int)) (.exit 0) (o7)from RP [V5 (v0.length:Int),.b false] (ALn v0 etS<|AC hb<|AN)) (by intro h;cases h))
 |cons hd rest g =>
  intro i a b;have hb:=aF a;have j:=aG a b;have c:=au a;have d:=aE a;unfold gI;apply VD;intro g1 e;apply VC<;>intro f
  ·exact Vz (VB (show ri (jm v0 v1 (i:Int)) .ret (nY false)from RP [V5 (v0.length:Int),.b true,.row (etS hd),.row (etS g1),.b true] (ALn v0 etS<|AC hb<|AR etS d<|AR etS e<|AC f<|AN)) (by intro h;cases h))
  ·exact(g (i+1) c b).mono fun y k=>by have r:ri (jm v0 v1 (i:Int)) .normal (jm v0 v1 (inc (i:Int))):=RP [V5 (v0.length:Int),.b true,.row (etS hd),.row (etS g1),.b false] (ALn v0 etS<|AC hb<|AR etS d<|AR etS e<|AC f<|AN);rw[j]at r;cases y<;>exact VA r k
noncomputable def sZ (b c:List Y9):Option (Bool):=
  cond ((b.length:Int) != (c.length:Int))
   (some (false))
   (if b.length≤9223372036854775807 then(gI c b 0).bind fun y=>match y with
    | .ret a=>(some (a))
    | .x0=>(some (true))else none)
theorem HY (x0 a:List Y9):Ans (sZ x0 a) (fun r=>Does E 134 [.one (V8 1 (x0.map etS)),.one (V8 1 (a.map etS))] [VY r]):=by
 unfold sZ;apply VC<;>intro d
 ·exact Vz (DP Tryz.f134 [V5 (x0.length:Int),V5 (a.length:Int),.b true] (ALn x0 etS<|ALn a etS<|AC d<|AN))
 ·apply VE;intro e;apply VD;intro y c;replace c:=Fy x0 a x0 0 rfl e y c;cases y with
  |ret b =>have f:=c;exact Vz (DP Tryz.f134 [V5 (x0.length:Int),V5 (a.length:Int),.b false,.lp .ret (nY b)] (ALn x0 etS<|ALn a etS<|AC d<|AL f<|AN))
  |x0 =>have f:=c;exact Vz (DP Tryz.f134 [V5 (x0.length:Int),V5 (a.length:Int),.b false,.lp (.exit 0) (o7)] (ALn x0 etS<|ALn a etS<|AC d<|AL f<|AN))
theorem wQ (l:List Y9):∀(rest:List Y9)(i:Nat),l.drop i=rest→(∀y∈rest,ab.sm y)→gI l rest i=some .x0
 |[],i,_,_=>rfl
 |x::rest,i,a,h=>by have b:=h x (by simp);unfold gI;rw[aE a,V9];simp only[b,WN,yes,W9,Yc,Xd,Wu,Wn];exact wQ l rest (i+1) (au a) (fun y c=>h y (by simp[c]))
theorem yH (a:List Y9)(b:List Y9)(e:a=b)(h:ab.sm a):Does E 134 [.one (V8 1 (a.map etS)),.one (V8 1 (b.map etS))] [VY (yes a b)]:=by subst e;exact HY a a _ (by unfold sZ;rw[Wa (bM h),wQ a a 0 rfl h.2];simp[yes])
noncomputable def yg (a b:GTask):Option (Bool):=cond (!(a.f0.toList==b.f0.toList)) (some (false)) (cond (!(a.f1.toList==b.f1.toList)) (some (false)) (cond (a.f2 != b.f2) (some (false)) (cond (!(a.f3==b.f3)) (some (false)) (if a.f4=b.f4 then if ab.sm a.f4 then cond (yes a.f4 b.f4) (some (true)) (some (false))else none else none))))
theorem Pk (c d:GTask):Ans (yg c d) (fun r=>Does E 118 [.agg (VQ .far c),.agg (VQ .far d)] [VY r]):=by
 unfold yg;apply VC<;>intro a
 ·exact Vz (DP Tryz.f118 [.b true] (AC a<|AN))
 ·apply VC<;>intro b
  ·exact Vz (DP Tryz.f118 [.b false,.b true] (AC a<|AC b<|AN))
  ·apply VC<;>intro e
   ·exact Vz (DP Tryz.f118 [.b false,.b false,.b true] (AC a<|AC b<|AC e<|AN))
   ·apply VC<;>intro f
    ·exact Vz (DP Tryz.f118 [.b false,.b false,.b false,.b true] (AC a<|AC b<|AC e<|AC f<|AN))
    ·apply VE;intro g;apply VE;intro h;apply VC<;>intro i
     ·exact Vz (DP Tryz.f118 [.b false,.b false,.b false,.b false,rT] (AC a<|AC b<|AC e<|AC f<|AD (VH (yH c.f4 d.f4 g h) i)<|AN))
     ·exact Vz (DP Tryz.f118 [.b false,.b false,.b false,.b false,rF] (AC a<|AC b<|AC e<|AC f<|AD (VH (yH c.f4 d.f4 g h) i)<|AN))
theorem Dw (a:GTask)(b:GTask)(e:a=b)(h:ab.sm a):Does E 118 [.agg (VQ .far a),.agg (VQ .far b)] [VY (yes a b)]:=by subst e;obtain⟨w0,d,c⟩:=h;exact Pk a a _ (by unfold yg;simp only[c,WN,yes,W9,Yc,Xd,Wu,Wn])
inductive AK where|ret (v4:Bool)|x0
def kM (q0:Kd)(q1:Kd)(v0 v1:List GTask)(v5:Int):US:=stL 27 [(0,.one (V8 5 (v0.map (VQ q0)))),(1,.one (V8 5 (v1.map (VQ q1)))),(5,V2 v5)]
def qq (q0:Kd)(q1:Kd)(a:Bool):US:=stL 27 [(4,V3 a)]
def rj (q0:Kd)(q1:Kd)  : US:=stL 27 []
abbrev uH:US→Exit→US→Prop:=Round E 104 (an Tryz.f104 0)
def Kl {q0:Kd}{q1:Kd}(v0 v1:List GTask)(v5:Int):AK→Prop| .ret a=>Loops E 104 (an Tryz.f104 0) (kM q0 q1 v0 v1 v5) .ret (qq q0 q1 a)| .x0=>Loops E 104 (an Tryz.f104 0) (kM q0 q1 v0 v1 v5) (.exit 0) (rj q0 q1)
noncomputable def jF (v1:List GTask):List GTask→Nat→Option AK|[],i=>some (.x0)|hd::rest,i=>(ak v1 (i:Int)).bind fun g1=>if hd=g1 then if ab.sm hd then cond (yes hd g1) (jF v1 rest (i+1)) (some (.ret false))else none else none
theorem Kk {q0:Kd}{q1:Kd}(v0 v1:List GTask)(rest:List GTask):∀(i:Nat) ,(v0).drop i=rest→v0.length≤9223372036854775807→Ans (jF v1 rest i) (Kl (q0:=q0) (q1:=q1) v0 v1 (i:Int)):=by
 induction rest with
 |nil =>intro i a b;have hb:=aK a;unfold jF;exact Vz (VB (show uH (kM q0 q1 v0 v1 (i:Int)) (.exit 0) (rj q0 q1)from RP [V5 (v0.length:Int),.b false] (ALn v0 (VQ q0)<|AC hb<|AN)) (by intro h;cases h))
 |cons hd rest k =>
  intro i a b;have hb:=aF a;have l:=aG a b;have c:=au a;have d:=aE a;unfold jF;apply VD;intro g1 e;apply VE;intro f;apply VE;intro g;apply VC<;>intro j
  ·exact(k (i+1) c b).mono fun y m=>by have r:uH (kM q0 q1 v0 v1 (i:Int)) .normal (kM q0 q1 v0 v1 (inc (i:Int))):=RP [V5 (v0.length:Int),.b true,.row ((VQ q0) hd),.row ((VQ q1) g1),rT] (ALn v0 (VQ q0)<|AC hb<|AR (VQ q0) d<|AR (VQ q1) e<|AD (VH (Dw hd g1 f g) j)<|AN);rw[l]at r;cases y<;>exact VA r m
  ·exact Vz (VB (show uH (kM q0 q1 v0 v1 (i:Int)) .ret (qq q0 q1 false)from RP [V5 (v0.length:Int),.b true,.row ((VQ q0) hd),.row ((VQ q1) g1),rF] (ALn v0 (VQ q0)<|AC hb<|AR (VQ q0) d<|AR (VQ q1) e<|AD (VH (Dw hd g1 f g) j)<|AN)) (by intro h;cases h))
noncomputable def wn (b c:List GTask):Option (Bool):=
  cond ((b.length:Int) != (c.length:Int))
   (some (false))
   (if b.length≤9223372036854775807 then(jF c b 0).bind fun y=>match y with
    | .ret a=>(some (a))
    | .x0=>(some (true))else none)
theorem MI {q0:Kd}{q1:Kd}(x0 a:List GTask):Ans (wn x0 a) (fun r=>Does E 104 [.one (V8 5 (x0.map (VQ q0))),.one (V8 5 (a.map (VQ q1)))] [VY r]):=by
 unfold wn;apply VC<;>intro d
 ·exact Vz (DP Tryz.f104 [V5 (x0.length:Int),V5 (a.length:Int),.b true] (ALn x0 (VQ q0)<|ALn a (VQ q1)<|AC d<|AN))
 ·apply VE;intro e;apply VD;intro y c;replace c:=Kk (q0:=q0) (q1:=q1) x0 a x0 0 rfl e y c;cases y with
  |ret b =>have f:=c;exact Vz (DP Tryz.f104 [V5 (x0.length:Int),V5 (a.length:Int),.b false,.lp .ret (qq q0 q1 b)] (ALn x0 (VQ q0)<|ALn a (VQ q1)<|AC d<|AL f<|AN))
  |x0 =>have f:=c;exact Vz (DP Tryz.f104 [V5 (x0.length:Int),V5 (a.length:Int),.b false,.lp (.exit 0) (rj q0 q1)] (ALn x0 (VQ q0)<|ALn a (VQ q1)<|AC d<|AL f<|AN))
theorem zX (l:List GTask):∀(rest:List GTask)(i:Nat),l.drop i=rest→(∀y∈rest,ab.sm y)→jF l rest i=some .x0
 |[],i,_,_=>rfl
 |x::rest,i,a,h=>by have b:=h x (by simp);unfold jF;rw[aE a,V9];simp only[b,WN,yes,W9,Yc,Xd,Wu,Wn];exact zX l rest (i+1) (au a) (fun y c=>h y (by simp[c]))
theorem BM {q0:Kd}{q1:Kd}(a:List GTask)(b:List GTask)(e:a=b)(h:ab.sm a):Does E 104 [.one (V8 5 (a.map (VQ q0))),.one (V8 5 (b.map (VQ q1)))] [VY (yes a b)]:=by subst e;exact MI a a _ (by unfold wn;rw[Wa (bM h),zX a a 0 rfl h.2];simp[yes])
noncomputable def AH (a b:GDag):Option (Bool):=cond (!(a.f0.toList==b.f0.toList)) (some (false)) (cond (!(a.f1.toList==b.f1.toList)) (some (false)) (cond (a.f2 != b.f2) (some (false)) (cond (a.f3 != b.f3) (some (false)) (cond (!(a.f4==b.f4)) (some (false)) (if a.f5=b.f5 then if ab.sm a.f5 then cond (yes a.f5 b.f5) (some (true)) (some (false))else none else none)))))
theorem Q5 {q0:Kd}{q1:Kd}(b c:GDag):Ans (AH b c) (fun r=>Does E 81 [.agg (VK .far q0 b),.agg (VK .far q1 c)] [VY r]):=by
 unfold AH;apply VC<;>intro a
 ·exact Vz (DP Tryz.f81 [.b true] (AC a<|AN))
 ·apply VC<;>intro d
  ·exact Vz (DP Tryz.f81 [.b false,.b true] (AC a<|AC d<|AN))
  ·apply VC<;>intro e
   ·exact Vz (DP Tryz.f81 [.b false,.b false,.b true] (AC a<|AC d<|AC e<|AN))
   ·apply VC<;>intro f
    ·exact Vz (DP Tryz.f81 [.b false,.b false,.b false,.b true] (AC a<|AC d<|AC e<|AC f<|AN))
    ·apply VC<;>intro g
     ·exact Vz (DP Tryz.f81 [.b false,.b false,.b false,.b false,.b true] (AC a<|AC d<|AC e<|AC f<|AC g<|AN))
     ·apply VE;intro h;apply VE;intro i;apply VC<;>intro j
      ·exact Vz (DP Tryz.f81 [.b false,.b false,.b false,.b false,.b false,rT] (AC a<|AC d<|AC e<|AC f<|AC g<|AV (ψ:=fun k=>E.C k 104 [.one (V8 5 (b.f5.map (VQ q0))),.one (V8 5 (c.f5.map (VQ q1)))]=some [VY true]) (VF (BM b.f5 c.f5 h i) (by rw[j]))<|AN))
      ·exact Vz (DP Tryz.f81 [.b false,.b false,.b false,.b false,.b false,rF] (AC a<|AC d<|AC e<|AC f<|AC g<|AV (ψ:=fun k=>E.C k 104 [.one (V8 5 (b.f5.map (VQ q0))),.one (V8 5 (c.f5.map (VQ q1)))]=some [VY false]) (VF (BM b.f5 c.f5 h i) (by rw[j]))<|AN))
theorem sn {q0:Kd}{q1:Kd}(a:GDag)(b:GDag)(e:a=b)(h:ab.sm a):Does E 81 [.agg (VK .far q0 a),.agg (VK .far q1 b)] [VY (yes a b)]:=by subst e;obtain⟨w0,d,c⟩:=h;exact Q5 a a _ (by unfold AH;simp only[c,WN,yes,W9,Yc,Xd,Wu,Wn])
noncomputable def yd (a b:GPlan):Option (Bool):=if a.f0=b.f0 then if ab.sm a.f0 then cond (yes a.f0 b.f0) (cond (!(a.f1==b.f1)) (some (false)) (cond (a.f2 != b.f2) (some (false)) (cond (a.f3 != b.f3) (some (false)) (some (true))))) (some (false))else none else none
theorem Ph {q0:Kd}{q1:Kd}(a b:GPlan):Ans (yd a b) (fun r=>Does E 53 [.agg (VL .far q0 a),.agg (VL .far q1 b)] [VY r]):=by
 unfold yd;apply VE;intro c;apply VE;intro d;apply VC<;>intro e
 ·apply VC<;>intro f
  ·exact Vz (DP Tryz.f53 [rT,.b true] (AV (ψ:=fun k=>E.C k 81 [.agg (VK .far q0 a.f0),.agg (VK .far q1 b.f0)]=some [VY true]) (VF (sn a.f0 b.f0 c d) (by rw[e]))<|AC f<|AN))
  ·apply VC<;>intro g
   ·exact Vz (DP Tryz.f53 [rT,.b false,.b true] (AV (ψ:=fun k=>E.C k 81 [.agg (VK .far q0 a.f0),.agg (VK .far q1 b.f0)]=some [VY true]) (VF (sn a.f0 b.f0 c d) (by rw[e]))<|AC f<|AC g<|AN))
   ·apply VC<;>intro h
    ·exact Vz (DP Tryz.f53 [rT,.b false,.b false,.b true] (AV (ψ:=fun k=>E.C k 81 [.agg (VK .far q0 a.f0),.agg (VK .far q1 b.f0)]=some [VY true]) (VF (sn a.f0 b.f0 c d) (by rw[e]))<|AC f<|AC g<|AC h<|AN))
    ·exact Vz (DP Tryz.f53 [rT,.b false,.b false,.b false] (AV (ψ:=fun k=>E.C k 81 [.agg (VK .far q0 a.f0),.agg (VK .far q1 b.f0)]=some [VY true]) (VF (sn a.f0 b.f0 c d) (by rw[e]))<|AC f<|AC g<|AC h<|AN))
 ·exact Vz (DP Tryz.f53 [rF] (AV (ψ:=fun k=>E.C k 81 [.agg (VK .far q0 a.f0),.agg (VK .far q1 b.f0)]=some [VY false]) (VF (sn a.f0 b.f0 c d) (by rw[e]))<|AN))
theorem Dv {q0:Kd}{q1:Kd}(a:GPlan)(b:GPlan)(e:a=b)(h:ab.sm a):Does E 53 [.agg (VL .far q0 a),.agg (VL .far q1 b)] [VY (yes a b)]:=by subst e;have w0:ab.sm a.f0:=h;exact Ph a a _ (by unfold yd;simp only[w0,WN,yes,W9,Yc,Xd,Wu,Wn])
inductive AI where|ret (v4:Bool)|x0
def kL (q0:Kd)(q1:Kd)(v0 v1:List GPlan)(v5:Int):US:=stL 27 [(0,.one (V8 9 (v0.map (VL q0 q0)))),(1,.one (V8 9 (v1.map (VL q1 q1)))),(5,V2 v5)]
def qn (q0:Kd)(q1:Kd)(a:Bool):US:=stL 27 [(4,V3 a)]
def re (q0:Kd)(q1:Kd)  : US:=stL 27 []
abbrev uF:US→Exit→US→Prop:=Round E 20 (an Tryz.f20 0)
def Ki {q0:Kd}{q1:Kd}(v0 v1:List GPlan)(v5:Int):AI→Prop| .ret a=>Loops E 20 (an Tryz.f20 0) (kL q0 q1 v0 v1 v5) .ret (qn q0 q1 a)| .x0=>Loops E 20 (an Tryz.f20 0) (kL q0 q1 v0 v1 v5) (.exit 0) (re q0 q1)
noncomputable def jE (v1:List GPlan):List GPlan→Nat→Option AI|[],i=>some (.x0)|hd::rest,i=>(ak v1 (i:Int)).bind fun g1=>if hd=g1 then if ab.sm hd then cond (yes hd g1) (jE v1 rest (i+1)) (some (.ret false))else none else none
theorem Kh {q0:Kd}{q1:Kd}(v0 v1:List GPlan)(rest:List GPlan):∀(i:Nat) ,(v0).drop i=rest→v0.length≤9223372036854775807→Ans (jE v1 rest i) (Ki (q0:=q0) (q1:=q1) v0 v1 (i:Int)):=by
 induction rest with
 |nil =>intro i a b;have hb:=aK a;unfold jE;exact Vz (VB (show uF (kL q0 q1 v0 v1 (i:Int)) (.exit 0) (re q0 q1)from RP [V5 (v0.length:Int),.b false] (ALn v0 (VL q0 q0)<|AC hb<|AN)) (by intro h;cases h))
 |cons hd rest l =>
  intro i a b;have hb:=aF a;have m:=aG a b;have c:=au a;have d:=aE a;unfold jE;apply VD;intro g1 e;apply VE;intro f;apply VE;intro g;apply VC<;>intro j
  ·exact(l (i+1) c b).mono fun y n=>by have r:uF (kL q0 q1 v0 v1 (i:Int)) .normal (kL q0 q1 v0 v1 (inc (i:Int))):=RP [V5 (v0.length:Int),.b true,.row ((VL q0 q0) hd),.row ((VL q1 q1) g1),rT] (ALn v0 (VL q0 q0)<|AC hb<|AR (VL q0 q0) d<|AR (VL q1 q1) e<|AV (ψ:=fun k=>E.C k 53 [.agg (VL .far q0 hd),.agg (VL .far q1 g1)]=some [VY true]) (VF (Dv hd g1 f g) (by rw[j]))<|AN);rw[m]at r;cases y<;>exact VA r n
  ·exact Vz (VB (show uF (kL q0 q1 v0 v1 (i:Int)) .ret (qn q0 q1 false)from RP [V5 (v0.length:Int),.b true,.row ((VL q0 q0) hd),.row ((VL q1 q1) g1),rF] (ALn v0 (VL q0 q0)<|AC hb<|AR (VL q0 q0) d<|AR (VL q1 q1) e<|AV (ψ:=fun k=>E.C k 53 [.agg (VL .far q0 hd),.agg (VL .far q1 g1)]=some [VY false]) (VF (Dv hd g1 f g) (by rw[j]))<|AN)) (by intro h;cases h))
noncomputable def wi (b c:List GPlan):Option (Bool):=
  cond ((b.length:Int) != (c.length:Int))
   (some (false))
   (if b.length≤9223372036854775807 then(jE c b 0).bind fun y=>match y with
    | .ret a=>(some (a))
    | .x0=>(some (true))else none)
theorem ME {q0:Kd}{q1:Kd}(x0 a:List GPlan):Ans (wi x0 a) (fun r=>Does E 20 [.one (V8 9 (x0.map (VL q0 q0))),.one (V8 9 (a.map (VL q1 q1)))] [VY r]):=by
 unfold wi;apply VC<;>intro d
 ·exact Vz (DP Tryz.f20 [V5 (x0.length:Int),V5 (a.length:Int),.b true] (ALn x0 (VL q0 q0)<|ALn a (VL q1 q1)<|AC d<|AN))
 ·apply VE;intro e;apply VD;intro y c;replace c:=Kh (q0:=q0) (q1:=q1) x0 a x0 0 rfl e y c;cases y with
  |ret b =>have f:=c;exact Vz (DP Tryz.f20 [V5 (x0.length:Int),V5 (a.length:Int),.b false,.lp .ret (qn q0 q1 b)] (ALn x0 (VL q0 q0)<|ALn a (VL q1 q1)<|AC d<|AL f<|AN))
  |x0 =>have f:=c;exact Vz (DP Tryz.f20 [V5 (x0.length:Int),V5 (a.length:Int),.b false,.lp (.exit 0) (re q0 q1)] (ALn x0 (VL q0 q0)<|ALn a (VL q1 q1)<|AC d<|AL f<|AN))
theorem zW (l:List GPlan):∀(rest:List GPlan)(i:Nat),l.drop i=rest→(∀y∈rest,ab.sm y)→jE l rest i=some .x0
 |[],i,_,_=>rfl
 |x::rest,i,a,h=>by have b:=h x (by simp);unfold jE;rw[aE a,V9];simp only[b,WN,yes,W9,Yc,Xd,Wu,Wn];exact zW l rest (i+1) (au a) (fun y c=>h y (by simp[c]))
theorem og {q0:Kd}{q1:Kd}(a:List GPlan)(b:List GPlan)(e:a=b)(h:ab.sm a):Does E 20 [.one (V8 9 (a.map (VL q0 q0))),.one (V8 9 (b.map (VL q1 q1)))] [VY (yes a b)]:=by subst e;exact ME a a _ (by unfold wi;rw[Wa (bM h),zW a a 0 rfl h.2];simp[yes])
noncomputable def yf (a b:GSpan):Option (Bool):=cond (a.f0 != b.f0) (some (false)) (cond (a.f1 != b.f1) (some (false)) (some (true)))
theorem Pj (b c:GSpan):Ans (yf b c) (fun r=>Does E 82 [.agg (VO b),.agg (VO c)] [VY r]):=by
 unfold yf;apply VC<;>intro a
 ·exact Vz (DP Tryz.f82 [.b true] (AC a<|AN))
 ·apply VC<;>intro d
  ·exact Vz (DP Tryz.f82 [.b false,.b true] (AC a<|AC d<|AN))
  ·exact Vz (DP Tryz.f82 [.b false,.b false] (AC a<|AC d<|AN))
theorem tD (a:GSpan)(b:GSpan)(e:a=b)(h:ab.sm a):Does E 82 [.agg (VO a),.agg (VO b)] [VY (yes a b)]:=by
 subst e
 skip
 exact Pj a a _ (by unfold yf;simp only[WN,yes,W9,Yc,Xd,Wu,Wn])
noncomputable def wk (a b:GState):Option (Bool):=cond (a.f0 != b.f0) (some (false)) (cond (a.f1 != b.f1) (some (false)) (cond (a.f2 != b.f2) (some (false)) (cond (a.f3 != b.f3) (some (false)) (some (true)))))
theorem MH (d e:GState):Ans (wk d e) (fun r=>Does E 105 [.agg (VP d),.agg (VP e)] [VY r]):=by
 unfold wk;apply VC<;>intro a
 ·exact Vz (DP Tryz.f105 [.b true] (AC a<|AN))
 ·apply VC<;>intro b
  ·exact Vz (DP Tryz.f105 [.b false,.b true] (AC a<|AC b<|AN))
  ·apply VC<;>intro c
   ·exact Vz (DP Tryz.f105 [.b false,.b false,.b true] (AC a<|AC b<|AC c<|AN))
   ·apply VC<;>intro f
    ·exact Vz (DP Tryz.f105 [.b false,.b false,.b false,.b true] (AC a<|AC b<|AC c<|AC f<|AN))
    ·exact Vz (DP Tryz.f105 [.b false,.b false,.b false,.b false] (AC a<|AC b<|AC c<|AC f<|AN))
theorem BL (a:GState)(b:GState)(e:a=b)(h:ab.sm a):Does E 105 [.agg (VP a),.agg (VP b)] [VY (yes a b)]:=by
 subst e
 skip
 exact MH a a _ (by unfold wk;simp only[WN,yes,W9,Yc,Xd,Wu,Wn])
inductive y4 where|ret (v4:Bool)|x0
def jS (v0 v1:List GState)(v5:Int):US:=stL 27 [(0,.one (V8 4 (v0.map VP))),(1,.one (V8 4 (v1.map VP))),(5,V2 v5)]
def o6 (a:Bool):US:=stL 27 [(4,V3 a)]
def qp  : US:=stL 27 []
abbrev sY:US→Exit→US→Prop:=Round E 83 (an Tryz.f83 0)
def HX (v0 v1:List GState)(v5:Int):y4→Prop| .ret a=>Loops E 83 (an Tryz.f83 0) (jS v0 v1 v5) .ret (o6 a)| .x0=>Loops E 83 (an Tryz.f83 0) (jS v0 v1 v5) (.exit 0) (qp)
noncomputable def iJ (v1:List GState):List GState→Nat→Option y4|[],i=>some (.x0)|hd::rest,i=>(ak v1 (i:Int)).bind fun g1=>if hd=g1 then if ab.sm hd then cond (yes hd g1) (iJ v1 rest (i+1)) (some (.ret false))else none else none
theorem HW (v0 v1:List GState)(rest:List GState):∀(i:Nat) ,(v0).drop i=rest→v0.length≤9223372036854775807→Ans (iJ v1 rest i) (HX v0 v1 (i:Int)):=by
 induction rest with
 |nil =>intro i a b;have hb:=aK a;unfold iJ;exact Vz (VB (show sY (jS v0 v1 (i:Int)) (.exit 0) (qp)from RP [V5 (v0.length:Int),.b false] (ALn v0 VP<|AC hb<|AN)) (by intro h;cases h))
 |cons hd rest k =>
  intro i a b;have hb:=aF a;have l:=aG a b;have c:=au a;have d:=aE a;unfold iJ;apply VD;intro g1 e;apply VE;intro f;apply VE;intro g;apply VC<;>intro j
  ·exact(k (i+1) c b).mono fun y m=>by have r:sY (jS v0 v1 (i:Int)) .normal (jS v0 v1 (inc (i:Int))):=RP [V5 (v0.length:Int),.b true,.row (VP hd),.row (VP g1),rT] (ALn v0 VP<|AC hb<|AR VP d<|AR VP e<|AD (VH (BL hd g1 f g) j)<|AN);rw[l]at r;cases y<;>exact VA r m
  ·exact Vz (VB (show sY (jS v0 v1 (i:Int)) .ret (o6 false)from RP [V5 (v0.length:Int),.b true,.row (VP hd),.row (VP g1),rF] (ALn v0 VP<|AC hb<|AR VP d<|AR VP e<|AD (VH (BL hd g1 f g) j)<|AN)) (by intro h;cases h))
noncomputable def uG (b c:List GState):Option (Bool):=
  cond ((b.length:Int) != (c.length:Int))
   (some (false))
   (if b.length≤9223372036854775807 then(iJ c b 0).bind fun y=>match y with
    | .ret a=>(some (a))
    | .x0=>(some (true))else none)
theorem Kj (x0 a:List GState):Ans (uG x0 a) (fun r=>Does E 83 [.one (V8 4 (x0.map VP)),.one (V8 4 (a.map VP))] [VY r]):=by
 unfold uG;apply VC<;>intro d
 ·exact Vz (DP Tryz.f83 [V5 (x0.length:Int),V5 (a.length:Int),.b true] (ALn x0 VP<|ALn a VP<|AC d<|AN))
 ·apply VE;intro e;apply VD;intro y c;replace c:=HW x0 a x0 0 rfl e y c;cases y with
  |ret b =>have f:=c;exact Vz (DP Tryz.f83 [V5 (x0.length:Int),V5 (a.length:Int),.b false,.lp .ret (o6 b)] (ALn x0 VP<|ALn a VP<|AC d<|AL f<|AN))
  |x0 =>have f:=c;exact Vz (DP Tryz.f83 [V5 (x0.length:Int),V5 (a.length:Int),.b false,.lp (.exit 0) (qp)] (ALn x0 VP<|ALn a VP<|AC d<|AL f<|AN))
theorem yN (l:List GState):∀(rest:List GState)(i:Nat),l.drop i=rest→(∀y∈rest,ab.sm y)→iJ l rest i=some .x0
 |[],i,_,_=>rfl
 |x::rest,i,a,h=>by have b:=h x (by simp);unfold iJ;rw[aE a,V9];simp only[b,WN,yes,W9,Yc,Xd,Wu,Wn];exact yN l rest (i+1) (au a) (fun y c=>h y (by simp[c]))
theorem zJ (a:List GState)(b:List GState)(e:a=b)(h:ab.sm a):Does E 83 [.one (V8 4 (a.map VP)),.one (V8 4 (b.map VP))] [VY (yes a b)]:=by subst e;exact Kj a a _ (by unfold uG;rw[Wa (bM h),yN a a 0 rfl h.2];simp[yes])
noncomputable def AJ (a b:GRun):Option (Bool):=cond (!(a.f0.toList==b.f0.toList)) (some (false)) (if a.f1=b.f1 then if ab.sm a.f1 then cond (yes a.f1 b.f1) (cond (a.f2 != b.f2) (some (false)) (if a.f3=b.f3 then if ab.sm a.f3 then cond (yes a.f3 b.f3) (some (true)) (some (false))else none else none)) (some (false))else none else none)
theorem Q6 (a b:GRun):Ans (AJ a b) (fun r=>Does E 54 [.agg (VM .far a),.agg (VM .far b)] [VY r]):=by
 unfold AJ;apply VC<;>intro c
 ·exact Vz (DP Tryz.f54 [.b true] (AC c<|AN))
 ·apply VE;intro d;apply VE;intro e;apply VC<;>intro f
  ·apply VC<;>intro g
   ·exact Vz (DP Tryz.f54 [.b false,rT,.b true] (AC c<|AD (VH (tD a.f1 b.f1 d e) f)<|AC g<|AN))
   ·apply VE;intro h;apply VE;intro i;apply VC<;>intro j
    ·exact Vz (DP Tryz.f54 [.b false,rT,.b false,rT] (AC c<|AD (VH (tD a.f1 b.f1 d e) f)<|AC g<|AD (VH (zJ a.f3 b.f3 h i) j)<|AN))
    ·exact Vz (DP Tryz.f54 [.b false,rT,.b false,rF] (AC c<|AD (VH (tD a.f1 b.f1 d e) f)<|AC g<|AD (VH (zJ a.f3 b.f3 h i) j)<|AN))
  ·exact Vz (DP Tryz.f54 [.b false,rF] (AC c<|AD (VH (tD a.f1 b.f1 d e) f)<|AN))
theorem GF (a:GRun)(b:GRun)(e:a=b)(h:ab.sm a):Does E 54 [.agg (VM .far a),.agg (VM .far b)] [VY (yes a b)]:=by subst e;obtain⟨w0,c,d⟩:=h;exact Q6 a a _ (by unfold AJ;simp only[c,d,WN,yes,W9,Yc,Xd,Wu,Wn])
inductive Ce where|ret (v4:Bool)|x0
def lU (q0:Kd)(q1:Kd)(v0 v1:List GRun)(v5:Int):US:=stL 27 [(0,.one (V8 5 (v0.map (VM q0)))),(1,.one (V8 5 (v1.map (VM q1)))),(5,V2 v5)]
def rf (q0:Kd)(q1:Kd)(a:Bool):US:=stL 27 [(4,V3 a)]
def sW (q0:Kd)(q1:Kd)  : US:=stL 27 []
abbrev wj:US→Exit→US→Prop:=Round E 21 (an Tryz.f21 0)
def MG {q0:Kd}{q1:Kd}(v0 v1:List GRun)(v5:Int):Ce→Prop| .ret a=>Loops E 21 (an Tryz.f21 0) (lU q0 q1 v0 v1 v5) .ret (rf q0 q1 a)| .x0=>Loops E 21 (an Tryz.f21 0) (lU q0 q1 v0 v1 v5) (.exit 0) (sW q0 q1)
noncomputable def kv (v1:List GRun):List GRun→Nat→Option Ce|[],i=>some (.x0)|hd::rest,i=>(ak v1 (i:Int)).bind fun g1=>if hd=g1 then if ab.sm hd then cond (yes hd g1) (kv v1 rest (i+1)) (some (.ret false))else none else none
theorem MF {q0:Kd}{q1:Kd}(v0 v1:List GRun)(rest:List GRun):∀(i:Nat) ,(v0).drop i=rest→v0.length≤9223372036854775807→Ans (kv v1 rest i) (MG (q0:=q0) (q1:=q1) v0 v1 (i:Int)):=by
 induction rest with
 |nil =>intro i a b;have hb:=aK a;unfold kv;exact Vz (VB (show wj (lU q0 q1 v0 v1 (i:Int)) (.exit 0) (sW q0 q1)from RP [V5 (v0.length:Int),.b false] (ALn v0 (VM q0)<|AC hb<|AN)) (by intro h;cases h))
 |cons hd rest k =>
  intro i a b;have hb:=aF a;have l:=aG a b;have c:=au a;have d:=aE a;unfold kv;apply VD;intro g1 e;apply VE;intro f;apply VE;intro g;apply VC<;>intro j
  ·exact(k (i+1) c b).mono fun y m=>by have r:wj (lU q0 q1 v0 v1 (i:Int)) .normal (lU q0 q1 v0 v1 (inc (i:Int))):=RP [V5 (v0.length:Int),.b true,.row ((VM q0) hd),.row ((VM q1) g1),rT] (ALn v0 (VM q0)<|AC hb<|AR (VM q0) d<|AR (VM q1) e<|AD (VH (GF hd g1 f g) j)<|AN);rw[l]at r;cases y<;>exact VA r m
  ·exact Vz (VB (show wj (lU q0 q1 v0 v1 (i:Int)) .ret (rf q0 q1 false)from RP [V5 (v0.length:Int),.b true,.row ((VM q0) hd),.row ((VM q1) g1),rF] (ALn v0 (VM q0)<|AC hb<|AR (VM q0) d<|AR (VM q1) e<|AD (VH (GF hd g1 f g) j)<|AN)) (by intro h;cases h))
noncomputable def ye (b c:List GRun):Option (Bool):=
  cond ((b.length:Int) != (c.length:Int))
   (some (false))
   (if b.length≤9223372036854775807 then(kv c b 0).bind fun y=>match y with
    | .ret a=>(some (a))
    | .x0=>(some (true))else none)
theorem Pi {q0:Kd}{q1:Kd}(x0 a:List GRun):Ans (ye x0 a) (fun r=>Does E 21 [.one (V8 5 (x0.map (VM q0))),.one (V8 5 (a.map (VM q1)))] [VY r]):=by
 unfold ye;apply VC<;>intro d
 ·exact Vz (DP Tryz.f21 [V5 (x0.length:Int),V5 (a.length:Int),.b true] (ALn x0 (VM q0)<|ALn a (VM q1)<|AC d<|AN))
 ·apply VE;intro e;apply VD;intro y c;replace c:=MF (q0:=q0) (q1:=q1) x0 a x0 0 rfl e y c;cases y with
  |ret b =>have f:=c;exact Vz (DP Tryz.f21 [V5 (x0.length:Int),V5 (a.length:Int),.b false,.lp .ret (rf q0 q1 b)] (ALn x0 (VM q0)<|ALn a (VM q1)<|AC d<|AL f<|AN))
  |x0 =>have f:=c;exact Vz (DP Tryz.f21 [V5 (x0.length:Int),V5 (a.length:Int),.b false,.lp (.exit 0) (sW q0 q1)] (ALn x0 (VM q0)<|ALn a (VM q1)<|AC d<|AL f<|AN))
theorem BX (l:List GRun):∀(rest:List GRun)(i:Nat),l.drop i=rest→(∀y∈rest,ab.sm y)→kv l rest i=some .x0
 |[],i,_,_=>rfl
 |x::rest,i,a,h=>by have b:=h x (by simp);unfold kv;rw[aE a,V9];simp only[b,WN,yes,W9,Yc,Xd,Wu,Wn];exact BX l rest (i+1) (au a) (fun y c=>h y (by simp[c]))
theorem tC {q0:Kd}{q1:Kd}(a:List GRun)(b:List GRun)(e:a=b)(h:ab.sm a):Does E 21 [.one (V8 5 (a.map (VM q0))),.one (V8 5 (b.map (VM q1)))] [VY (yes a b)]:=by subst e;exact Pi a a _ (by unfold ye;rw[Wa (bM h),BX a a 0 rfl h.2];simp[yes])
noncomputable def wh (a b:GBoard):Option (Bool):=if a.f0=b.f0 then if ab.sm a.f0 then cond (yes a.f0 b.f0) (if a.f1=b.f1 then if ab.sm a.f1 then cond (yes a.f1 b.f1) (if a.f2=b.f2 then if ab.sm a.f2 then cond (yes a.f2 b.f2) (cond (a.f3 != b.f3) (some (false)) (cond (a.f4 != b.f4) (some (false)) (some (true)))) (some (false))else none else none) (some (false))else none else none) (some (false))else none else none
theorem MD {q0:Kd}{q1:Kd}(a b:GBoard):Ans (wh a b) (fun r=>Does E 8 [.agg (VI .far q0 a),.agg (VI .far q1 b)] [VY r]):=by
 unfold wh;apply VE;intro c;apply VE;intro d;apply VC<;>intro e
 ·apply VE;intro f;apply VE;intro g;apply VC<;>intro h
  ·apply VE;intro j;apply VE;intro l;apply VC<;>intro m
   ·apply VC<;>intro n
    ·exact Vz (DP Tryz.f8 [rT,rT,rT,.b true] (AD (VH (jg a.f0 b.f0 c d) e)<|AV (ψ:=fun k=>E.C k 20 [.one (V8 9 (a.f1.map (VL q0 q0))),.one (V8 9 (b.f1.map (VL q1 q1)))]=some [VY true]) (VF (og a.f1 b.f1 f g) (by rw[h]))<|AV (ψ:=fun k=>E.C k 21 [.one (V8 5 (a.f2.map (VM q0))),.one (V8 5 (b.f2.map (VM q1)))]=some [VY true]) (VF (tC a.f2 b.f2 j l) (by rw[m]))<|AC n<|AN))
    ·apply VC<;>intro i
     ·exact Vz (DP Tryz.f8 [rT,rT,rT,.b false,.b true] (AD (VH (jg a.f0 b.f0 c d) e)<|AV (ψ:=fun k=>E.C k 20 [.one (V8 9 (a.f1.map (VL q0 q0))),.one (V8 9 (b.f1.map (VL q1 q1)))]=some [VY true]) (VF (og a.f1 b.f1 f g) (by rw[h]))<|AV (ψ:=fun k=>E.C k 21 [.one (V8 5 (a.f2.map (VM q0))),.one (V8 5 (b.f2.map (VM q1)))]=some [VY true]) (VF (tC a.f2 b.f2 j l) (by rw[m]))<|AC n<|AC i<|AN))
     ·exact Vz (DP Tryz.f8 [rT,rT,rT,.b false,.b false] (AD (VH (jg a.f0 b.f0 c d) e)<|AV (ψ:=fun k=>E.C k 20 [.one (V8 9 (a.f1.map (VL q0 q0))),.one (V8 9 (b.f1.map (VL q1 q1)))]=some [VY true]) (VF (og a.f1 b.f1 f g) (by rw[h]))<|AV (ψ:=fun k=>E.C k 21 [.one (V8 5 (a.f2.map (VM q0))),.one (V8 5 (b.f2.map (VM q1)))]=some [VY true]) (VF (tC a.f2 b.f2 j l) (by rw[m]))<|AC n<|AC i<|AN))
   ·exact Vz (DP Tryz.f8 [rT,rT,rF] (AD (VH (jg a.f0 b.f0 c d) e)<|AV (ψ:=fun k=>E.C k 20 [.one (V8 9 (a.f1.map (VL q0 q0))),.one (V8 9 (b.f1.map (VL q1 q1)))]=some [VY true]) (VF (og a.f1 b.f1 f g) (by rw[h]))<|AV (ψ:=fun k=>E.C k 21 [.one (V8 5 (a.f2.map (VM q0))),.one (V8 5 (b.f2.map (VM q1)))]=some [VY false]) (VF (tC a.f2 b.f2 j l) (by rw[m]))<|AN))
  ·exact Vz (DP Tryz.f8 [rT,rF] (AD (VH (jg a.f0 b.f0 c d) e)<|AV (ψ:=fun k=>E.C k 20 [.one (V8 9 (a.f1.map (VL q0 q0))),.one (V8 9 (b.f1.map (VL q1 q1)))]=some [VY false]) (VF (og a.f1 b.f1 f g) (by rw[h]))<|AN))
 ·exact Vz (DP Tryz.f8 [rF] (AD (VH (jg a.f0 b.f0 c d) e)<|AN))
theorem BK {q0:Kd}{q1:Kd}(a:GBoard)(b:GBoard)(e:a=b)(h:ab.sm a):Does E 8 [.agg (VI .far q0 a),.agg (VI .far q1 b)] [VY (yes a b)]:=by subst e;obtain⟨w0,c,d⟩:=h;exact MD a a _ (by unfold wh;simp only[w0,c,d,WN,yes,W9,Yc,Xd,Wu,Wn])
end
end Go.Proofs.YtjikhkndmohepaaGreatDoor.Am
