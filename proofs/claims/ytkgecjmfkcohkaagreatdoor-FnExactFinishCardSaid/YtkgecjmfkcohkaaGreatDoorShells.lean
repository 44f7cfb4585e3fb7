/- What the functions that measure, copy and compare plans and runs do. -/
import Derived.Test.YtkgecjmfkcohkaaGreatDoorPlans
namespace Go.Proofs.YtkgecjmfkcohkaaGreatDoor.Am
open Go
set_option linter.unusedVariables false
set_option linter.unusedSimpArgs false
section
open Go.Proofs Classical
set_option maxRecDepth 100000
inductive sI where|ret (v4:Int)|x0 (v1:Int)
def gU (v0:List ByteArray)(v1 v5:Int):US:=stL 28 [(0,.one (.s .far () 1 (v0.map etS))),(1,NZ v1),(5,NZ v5)]
def lJ (a:Int):US:=stL 28 [(4,NZ a)]
def ms (a:Int):US:=stL 28 [(1,NZ a)]
abbrev nT:US→Exit→US→Prop:=Round E 53 (aw Tryz.f53 0)
def Ao (v0:List ByteArray)(v1 v5:Int):sI→Prop| .ret a=>Loops E 53 (aw Tryz.f53 0) (gU v0 v1 v5) .ret (lJ a)| .x0 b=>Loops E 53 (aw Tryz.f53 0) (gU v0 v1 v5) (.exit 0) (ms b)
noncomputable def dJ  : List ByteArray→Nat→Int→Option sI|[],i,v1=>some (.x0 v1)|hd::rest,i,v1=>cond (decide ((IntKind.wrap .i64 (v1-(hd.size:Int)))<(0:Int))) (some (.ret (-1:Int))) (dJ rest (i+1) (IntKind.wrap .i64 (v1-(hd.size:Int))))
theorem An (v0:List ByteArray)(rest:List ByteArray):∀(i:Nat)(v1:Int),(v0).drop i=rest→v0.length≤9223372036854775807→Ans (dJ rest i v1) (Ao v0 v1 (i:Int)):=by
 induction rest with
 |nil =>intro i v1 a b;have hb:=bw a;unfold dJ;exact NN (NP (show nT (gU v0 v1 (i:Int)) (.exit 0) (ms v1)from RP [N2 (v0.length:Int),.b false] (ALn v0 etS<|AC hb<|AN)) (by intro h;cases h))
 |cons hd rest f =>
  intro i v1 a b;have hb:=a8 a;have g:=ba a b;have c:=aG a;have d:=bc a;unfold dJ;apply NQ<;>intro e
  ·exact NN (NP (show nT (gU v0 v1 (i:Int)) .ret (lJ (-1:Int))from RP [N2 (v0.length:Int),.b true,.row (etS hd),.no,.b true] (ALn v0 etS<|AC hb<|AR etS d<|AC e<|AN)) (by intro h;cases h))
  ·exact(f (i+1) (IntKind.wrap .i64 (v1-(hd.size:Int))) c b).mono fun y j=>by have r:nT (gU v0 v1 (i:Int)) .normal (gU v0 (IntKind.wrap .i64 (v1-(hd.size:Int))) (inc (i:Int))):=RP [N2 (v0.length:Int),.b true,.row (etS hd),.no,.b false] (ALn v0 etS<|AC hb<|AR etS d<|AC e<|AN);rw[g]at r;cases y<;>exact NO r j
noncomputable def ir (x0:List ByteArray)(c:Int):Option (Int):=
  cond (decide ((IntKind.wrap .i64 (c-(x0.length:Int)))<(0:Int)))
   (some ((-1:Int)))
   (if x0.length≤9223372036854775807 then(dJ x0 0 (IntKind.wrap .i64 (c-(x0.length:Int)))).bind fun y=>match y with
    | .ret a=>(some (a))
    | .x0 b=>(some (b))else none)
theorem Ca (x0:List ByteArray)(d:Int):Ans (ir x0 d) (fun r=>Does E 53 [.one (.s .far () 1 (x0.map etS)),NZ d] [NW r]):=by
 unfold ir;apply NQ<;>intro e
 ·exact NN (DP Tryz.f53 [N2 (x0.length:Int),.no,.b true] (ALn x0 etS<|AC e<|AN))
 ·refine NS (fun f => ?_);refine NR (fun y c => ?_);replace c:=An x0 x0 0 (IntKind.wrap .i64 (d-(x0.length:Int))) rfl f y c;cases y with
  |ret a =>have g:=c;exact NN (DP Tryz.f53 [N2 (x0.length:Int),.no,.b false,.lp .ret (lJ a)] (ALn x0 etS<|AC e<|AL g<|AN))
  |x0 b =>have g:=c;exact NN (DP Tryz.f53 [N2 (x0.length:Int),.no,.b false,.lp (.exit 0) (ms b)] (ALn x0 etS<|AC e<|AL g<|AN))
noncomputable def dD (x:List ByteArray)(n:Int):Int:=(ir x n).getD (-1)
theorem sZ:∀(rest:List ByteArray)(i:Nat)(n:Int),(∀y∈rest,Wf.wf y)→Tot (dJ rest i n)
 |[],i,n,_=>Tot.some _
 |x::rest,i,n,h=>by
  have c:=h x (by simp);have a:=fun i n=>sZ rest i n fun y b=>h y (by simp[b])
  unfold dJ;repeat' (first|exact Tot.some _|exact a _ _|apply Tot.cond|refine Tot.ite (by assumption) ?_)
theorem ro (x:List ByteArray)(n:Int)(h:Wf.wf x):ir x n=some (dD x n):=by refine Tot.getD ?_ _;unfold ir;refine Tot.cond (Tot.some _) ?_;refine Tot.ite h.1 (Tot.bind (sZ x 0 _ h.2) fun y a => ?_);cases y<;>exact Tot.some _
theorem ul (x0:List ByteArray)(a:Int)(h:Wf.wf x0):Does E 53 [.one (.s .far () 1 (x0.map etS)),NZ a] [NW (dD x0 a)]:=by exact Ca x0 a _ (ro x0 a h)
theorem rg:∀(rest:List ByteArray)(i:Nat)(n:Int),(∀y∈rest,Wf.wf y)→0≤n→n≤1048576→∀y,dJ rest i n=some y →
  (∃m,y = .x0 m∧0≤m∧m≤n∧∀z∈rest,ae.sm z)∨∃m,y = .ret m∧m<0
 |[],i,n,_,a,f,y,e=>by cases e;exact .inl ⟨n,rfl,a,Pc _,fun z hz=>by cases hz⟩
 |x::rest,i,n,h,a,f,y,e=>by
  have d:=h x (by simp);unfold dJ at e;try rw[N5 d]at e
  by_cases q:IntKind.wrap .i64 (n-(x.size:Int))<0
  ·rw[Of q,Om]at e;cases e;exact .inr ⟨_,rfl,by omega⟩
  ·rw[Oe q,Ou]at e;try rw[N5 d]at e
   obtain⟨b,c⟩:=pQ a f d (by omega);rcases rg rest _ _ (fun y j=>h y (by simp[j])) (by omega) (by omega) y e with⟨m,g1,k,g3,g4⟩|g
   ·refine .inl ⟨m,g1,k,by omega,fun z hz => ?_⟩;rcases OB.1 hz with rfl|hz
    ·exact jN c
    ·exact g4 z hz
   ·exact .inr g
theorem Ar (x:List ByteArray)(n:Int)(a:Wf.wf x)(d:0≤n)(f:n≤1048576)(h:0≤dD x n):dD x n≤n∧ae.sm x:=by
 have e:=ro x n a;generalize dD x n=r at *;unfold ir at e;obtain⟨b,e⟩:=kS e h;obtain⟨l,i⟩:=pQ (n:=n) (k:=x.length) d f a.1 b;rw[N5 a.1,N6]at e;obtain⟨y,j,c⟩:=e;rcases rg x 0 _ a.2 b (by omega) y j with⟨m,rfl,o,g3,g4⟩|⟨m,rfl,g⟩
 ·cases c;exact⟨by omega,jN i,g4⟩
 ·cases c;omega
noncomputable def lg (x0:GTask)(a:Int):Option (Int):=cond (decide ((IntKind.wrap .i64 (a-(x0.f0.size:Int)))<(0:Int))) (some ((-1:Int))) (cond (decide ((IntKind.wrap .i64 ((IntKind.wrap .i64 (a-(x0.f0.size:Int)))-(x0.f1.size:Int)))<(0:Int))) (some ((-1:Int))) (if Wf.wf x0.f4 then cond (decide ((dD x0.f4 (IntKind.wrap .i64 ((IntKind.wrap .i64 (a-(x0.f0.size:Int)))-(x0.f1.size:Int))))<(0:Int))) (some ((-1:Int))) (some (dD x0.f4 (IntKind.wrap .i64 ((IntKind.wrap .i64 (a-(x0.f0.size:Int)))-(x0.f1.size:Int)))))else none))
theorem Ik (x0:GTask)(a:Int):Ans (lg x0 a) (fun r=>Does E 36 [.agg (GTask.t .far x0),NZ a] [NW r]):=by
 unfold lg;apply NQ<;>intro b
 ·exact NN (DP Tryz.f36 [.no,.b true] (AC b<|AN))
 ·apply NQ<;>intro c
  ·exact NN (DP Tryz.f36 [.no,.b false,.no,.b true] (AC b<|AC c<|AN))
  ·refine NS (fun d => ?_);apply NQ<;>intro e
   ·exact NN (DP Tryz.f36 [.no,.b false,.no,.b false,.ret [NW (dD x0.f4 (IntKind.wrap .i64 ((IntKind.wrap .i64 (a-(x0.f0.size:Int)))-(x0.f1.size:Int))))],.b true] (AC b<|AC c<|AD (ul x0.f4 (IntKind.wrap .i64 ((IntKind.wrap .i64 (a-(x0.f0.size:Int)))-(x0.f1.size:Int))) d)<|AC e<|AN))
   ·exact NN (DP Tryz.f36 [.no,.b false,.no,.b false,.ret [NW (dD x0.f4 (IntKind.wrap .i64 ((IntKind.wrap .i64 (a-(x0.f0.size:Int)))-(x0.f1.size:Int))))],.b false] (AC b<|AC c<|AD (ul x0.f4 (IntKind.wrap .i64 ((IntKind.wrap .i64 (a-(x0.f0.size:Int)))-(x0.f1.size:Int))) d)<|AC e<|AN))
noncomputable def et (x:GTask)(n:Int):Int:=(lg x n).getD (-1)
theorem wB (x:GTask)(n:Int)(h:Wf.wf x):lg x n=some (et x n):=by obtain⟨w0,a,b⟩:=h;refine Tot.getD ?_ _;unfold lg;repeat' (first|exact Tot.some _|apply Tot.cond|refine Tot.ite (by assumption) ?_)
theorem yv (x0:GTask)(a:Int)(h:Wf.wf x0):Does E 36 [.agg (GTask.t .far x0),NZ a] [NW (et x0 a)]:=by exact Ik x0 a _ (wB x0 a h)
theorem Gd (x:GTask)(n:Int)(b:Wf.wf x)(g:0≤n)(o:n≤1048576)(h:0≤et x n):et x n≤n∧ae.sm x:=by
 have e:=wB x n b;obtain⟨w0,i,a⟩:=b;generalize et x n=r at *;unfold lg at e;obtain⟨c,e⟩:=kS e h;obtain⟨p,j⟩:=pQ (n:=n) (k:=x.f0.size) g (by omega) w0 c;generalize IntKind.wrap .i64 (n-(x.f0.size:Int))=d at *;obtain⟨a2,e⟩:=kS e h;obtain⟨q,l⟩:=pQ (n:=d) (k:=x.f1.size) c (by omega) i a2;generalize IntKind.wrap .i64 (d-(x.f1.size:Int))=f at *;try rw[N5 a]at e
 obtain⟨a3,e⟩:=kS e h;try rw[N5 a]at e
 obtain⟨s,m⟩:=Ar x.f4 f a a2 (by omega) a3;generalize dD x.f4 f=t at *;cases e;exact⟨by omega,⟨jN j,jN l,m⟩⟩
inductive vR where|ret (v4:Int)|x0 (v1:Int)
def je (q0:Kd)(v0:List GTask)(v1 v5:Int):US:=stL 27 [(0,.one (.s .far () 5 (v0.map (GTask.t q0)))),(1,NZ v1),(5,NZ v5)]
def nm (q0:Kd)(a:Int):US:=stL 27 [(4,NZ a)]
def nU (q0:Kd)(a:Int):US:=stL 27 [(1,NZ a)]
abbrev qo:US→Exit→US→Prop:=Round E 15 (aw Tryz.f15 0)
def Ee {q0:Kd}(v0:List GTask)(v1 v5:Int):vR→Prop| .ret a=>Loops E 15 (aw Tryz.f15 0) (je q0 v0 v1 v5) .ret (nm q0 a)| .x0 b=>Loops E 15 (aw Tryz.f15 0) (je q0 v0 v1 v5) (.exit 0) (nU q0 b)
noncomputable def fa  : List GTask→Nat→Int→Option vR|[],i,v1=>some (.x0 v1)|hd::rest,i,v1=>if Wf.wf hd then cond (decide ((et hd v1)<(0:Int))) (some (.ret (-1:Int))) (fa rest (i+1) (et hd v1))else none
theorem Ed {q0:Kd}(v0:List GTask)(rest:List GTask):∀(i:Nat)(v1:Int),(v0).drop i=rest→v0.length≤9223372036854775807→Ans (fa rest i v1) (Ee (q0:=q0) v0 v1 (i:Int)):=by
 induction rest with
 |nil =>intro i v1 a b;have hb:=bw a;unfold fa;exact NN (NP (show qo (je q0 v0 v1 (i:Int)) (.exit 0) (nU q0 v1)from RP [N2 (v0.length:Int),.b false] (ALn v0 (GTask.t q0)<|AC hb<|AN)) (by intro h;cases h))
 |cons hd rest g =>
  intro i v1 a b;have hb:=a8 a;have j:=ba a b;have c:=aG a;have d:=bc a;unfold fa;refine NS (fun e => ?_);apply NQ<;>intro f
  ·exact NN (NP (show qo (je q0 v0 v1 (i:Int)) .ret (nm q0 (-1:Int))from RP [N2 (v0.length:Int),.b true,.row ((GTask.t q0) hd),.ret [NW (et hd v1)],.b true] (ALn v0 (GTask.t q0)<|AC hb<|AR (GTask.t q0) d<|AD (yv hd v1 e)<|AC f<|AN)) (by intro h;cases h))
  ·exact(g (i+1) (et hd v1) c b).mono fun y k=>by have r:qo (je q0 v0 v1 (i:Int)) .normal (je q0 v0 (et hd v1) (inc (i:Int))):=RP [N2 (v0.length:Int),.b true,.row ((GTask.t q0) hd),.ret [NW (et hd v1)],.b false] (ALn v0 (GTask.t q0)<|AC hb<|AR (GTask.t q0) d<|AD (yv hd v1 e)<|AC f<|AN);rw[j]at r;cases y<;>exact NO r k
noncomputable def j7 (x0:List GTask)(c:Int):Option (Int):=
  cond (decide ((IntKind.wrap .i64 (c-(x0.length:Int)))<(0:Int)))
   (some ((-1:Int)))
   (if x0.length≤9223372036854775807 then(fa x0 0 (IntKind.wrap .i64 (c-(x0.length:Int)))).bind fun y=>match y with
    | .ret a=>(some (a))
    | .x0 b=>(some (b))else none)
theorem Ga {q0:Kd}(x0:List GTask)(d:Int):Ans (j7 x0 d) (fun r=>Does E 15 [.one (.s .far () 5 (x0.map (GTask.t q0))),NZ d] [NW r]):=by
 unfold j7;apply NQ<;>intro e
 ·exact NN (DP Tryz.f15 [N2 (x0.length:Int),.no,.b true] (ALn x0 (GTask.t q0)<|AC e<|AN))
 ·refine NS (fun f => ?_);refine NR (fun y c => ?_);replace c:=Ed (q0:=q0) x0 x0 0 (IntKind.wrap .i64 (d-(x0.length:Int))) rfl f y c;cases y with
  |ret a =>have g:=c;exact NN (DP Tryz.f15 [N2 (x0.length:Int),.no,.b false,.lp .ret (nm q0 a)] (ALn x0 (GTask.t q0)<|AC e<|AL g<|AN))
  |x0 b =>have g:=c;exact NN (DP Tryz.f15 [N2 (x0.length:Int),.no,.b false,.lp (.exit 0) (nU q0 b)] (ALn x0 (GTask.t q0)<|AC e<|AL g<|AN))
noncomputable def dE (x:List GTask)(n:Int):Int:=(j7 x n).getD (-1)
theorem wA:∀(rest:List GTask)(i:Nat)(n:Int),(∀y∈rest,Wf.wf y)→Tot (fa rest i n)
 |[],i,n,_=>Tot.some _
 |x::rest,i,n,h=>by
  have c:=h x (by simp);have a:=fun i n=>wA rest i n fun y b=>h y (by simp[b])
  unfold fa;repeat' (first|exact Tot.some _|exact a _ _|apply Tot.cond|refine Tot.ite (by assumption) ?_)
theorem uN (x:List GTask)(n:Int)(h:Wf.wf x):j7 x n=some (dE x n):=by refine Tot.getD ?_ _;unfold j7;refine Tot.cond (Tot.some _) ?_;refine Tot.ite h.1 (Tot.bind (wA x 0 _ h.2) fun y a => ?_);cases y<;>exact Tot.some _
theorem wV {q0:Kd}(x0:List GTask)(a:Int)(h:Wf.wf x0):Does E 15 [.one (.s .far () 5 (x0.map (GTask.t q0))),NZ a] [NW (dE x0 a)]:=by exact Ga x0 a _ (uN x0 a h)
theorem uB:∀(rest:List GTask)(i:Nat)(n:Int),(∀y∈rest,Wf.wf y)→0≤n→n≤1048576→∀y,fa rest i n=some y →
  (∃m,y = .x0 m∧0≤m∧m≤n∧∀z∈rest,ae.sm z)∨∃m,y = .ret m∧m<0
 |[],i,n,_,a,f,y,e=>by cases e;exact .inl ⟨n,rfl,a,Pc _,fun z hz=>by cases hz⟩
 |x::rest,i,n,h,a,f,y,e=>by
  have d:=h x (by simp);unfold fa at e;try rw[N5 d]at e
  by_cases q:et x n<0
  ·rw[Of q,Om]at e;cases e;exact .inr ⟨_,rfl,by omega⟩
  ·rw[Oe q,Ou]at e;try rw[N5 d]at e
   obtain⟨b,c⟩:=Gd x n d a f (by omega);rcases uB rest _ _ (fun y j=>h y (by simp[j])) (by omega) (by omega) y e with⟨m,g1,k,g3,g4⟩|g
   ·refine .inl ⟨m,g1,k,by omega,fun z hz => ?_⟩;rcases OB.1 hz with rfl|hz
    ·exact c
    ·exact g4 z hz
   ·exact .inr g
theorem Ei (x:List GTask)(n:Int)(a:Wf.wf x)(d:0≤n)(f:n≤1048576)(h:0≤dE x n):dE x n≤n∧ae.sm x:=by
 have e:=uN x n a;generalize dE x n=r at *;unfold j7 at e;obtain⟨b,e⟩:=kS e h;obtain⟨l,i⟩:=pQ (n:=n) (k:=x.length) d f a.1 b;rw[N5 a.1,N6]at e;obtain⟨y,j,c⟩:=e;rcases uB x 0 _ a.2 b (by omega) y j with⟨m,rfl,o,g3,g4⟩|⟨m,rfl,g⟩
 ·cases c;exact⟨by omega,jN i,g4⟩
 ·cases c;omega
noncomputable def mL (x0:LDag)(a:Int):Option (Int):=cond (decide ((IntKind.wrap .i64 (a-(x0.f0.size:Int)))<(0:Int))) (some ((-1:Int))) (cond (decide ((IntKind.wrap .i64 ((IntKind.wrap .i64 (a-(x0.f0.size:Int)))-(x0.f1.size:Int)))<(0:Int))) (some ((-1:Int))) (if Wf.wf x0.f5 then cond (decide ((dE x0.f5 (IntKind.wrap .i64 ((IntKind.wrap .i64 (a-(x0.f0.size:Int)))-(x0.f1.size:Int))))<(0:Int))) (some ((-1:Int))) (some (dE x0.f5 (IntKind.wrap .i64 ((IntKind.wrap .i64 (a-(x0.f0.size:Int)))-(x0.f1.size:Int)))))else none))
theorem JQ {q0:Kd}(x0:LDag)(a:Int):Ans (mL x0 a) (fun r=>Does E 4 [.agg (LDag.t .far q0 x0),NZ a] [NW r]):=by
 unfold mL;apply NQ<;>intro b
 ·exact NN (DP Tryz.f4 [.no,.b true] (AC b<|AN))
 ·apply NQ<;>intro c
  ·exact NN (DP Tryz.f4 [.no,.b false,.no,.b true] (AC b<|AC c<|AN))
  ·refine NS (fun d => ?_);apply NQ<;>intro e
   ·exact NN (DP Tryz.f4 [.no,.b false,.no,.b false,.ret [NW (dE x0.f5 (IntKind.wrap .i64 ((IntKind.wrap .i64 (a-(x0.f0.size:Int)))-(x0.f1.size:Int))))],.b true] (AC b<|AC c<|AV (ψ:=fun k=>E.C k 15 [.one (.s .far () 5 (x0.f5.map (GTask.t q0))),NZ (IntKind.wrap .i64 ((IntKind.wrap .i64 (a-(x0.f0.size:Int)))-(x0.f1.size:Int)))]=some [NW (dE x0.f5 (IntKind.wrap .i64 ((IntKind.wrap .i64 (a-(x0.f0.size:Int)))-(x0.f1.size:Int))))]) (wV x0.f5 (IntKind.wrap .i64 ((IntKind.wrap .i64 (a-(x0.f0.size:Int)))-(x0.f1.size:Int))) d)<|AC e<|AN))
   ·exact NN (DP Tryz.f4 [.no,.b false,.no,.b false,.ret [NW (dE x0.f5 (IntKind.wrap .i64 ((IntKind.wrap .i64 (a-(x0.f0.size:Int)))-(x0.f1.size:Int))))],.b false] (AC b<|AC c<|AV (ψ:=fun k=>E.C k 15 [.one (.s .far () 5 (x0.f5.map (GTask.t q0))),NZ (IntKind.wrap .i64 ((IntKind.wrap .i64 (a-(x0.f0.size:Int)))-(x0.f1.size:Int)))]=some [NW (dE x0.f5 (IntKind.wrap .i64 ((IntKind.wrap .i64 (a-(x0.f0.size:Int)))-(x0.f1.size:Int))))]) (wV x0.f5 (IntKind.wrap .i64 ((IntKind.wrap .i64 (a-(x0.f0.size:Int)))-(x0.f1.size:Int))) d)<|AC e<|AN))
noncomputable def aH (x:LDag)(n:Int):Int:=(mL x n).getD (-1)
theorem xH (x:LDag)(n:Int)(h:Wf.wf x):mL x n=some (aH x n):=by obtain⟨w0,a,b⟩:=h;refine Tot.getD ?_ _;unfold mL;repeat' (first|exact Tot.some _|apply Tot.cond|refine Tot.ite (by assumption) ?_)
theorem gD {q0:Kd}(x0:LDag)(a:Int)(h:Wf.wf x0):Does E 4 [.agg (LDag.t .far q0 x0),NZ a] [NW (aH x0 a)]:=by exact JQ x0 a _ (xH x0 a h)
theorem In (x:LDag)(n:Int)(b:Wf.wf x)(g:0≤n)(o:n≤1048576)(h:0≤aH x n):aH x n≤n∧ae.sm x:=by
 have e:=xH x n b;obtain⟨w0,i,a⟩:=b;generalize aH x n=r at *;unfold mL at e;obtain⟨c,e⟩:=kS e h;obtain⟨p,j⟩:=pQ (n:=n) (k:=x.f0.size) g (by omega) w0 c;generalize IntKind.wrap .i64 (n-(x.f0.size:Int))=d at *;obtain⟨a2,e⟩:=kS e h;obtain⟨q,l⟩:=pQ (n:=d) (k:=x.f1.size) c (by omega) i a2;generalize IntKind.wrap .i64 (d-(x.f1.size:Int))=f at *;try rw[N5 a]at e
 obtain⟨a3,e⟩:=kS e h;try rw[N5 a]at e
 obtain⟨s,m⟩:=Ei x.f5 f a a2 (by omega) a3;generalize dE x.f5 f=t at *;cases e;exact⟨by omega,⟨jN j,jN l,m⟩⟩
inductive sK where|x0 (v3:List ByteArray)
def lh (v0 v3:List ByteArray)(v4:Int):US:=stL 22 [(0,.one (.s .far () 1 (v0.map etS))),(3,.one (.s .own () 1 (v3.map etS))),(4,NZ v4)]
def mt (a:List ByteArray):US:=stL 22 [(3,.one (.s .own () 1 (a.map etS)))]
abbrev sJ:US→Exit→US→Prop:=Round E 62 (aw Tryz.f62 0)
def Aq (v0 v3:List ByteArray)(v4:Int):sK→Prop| .x0 a=>Loops E 62 (aw Tryz.f62 0) (lh v0 v3 v4) (.exit 0) (mt a)
noncomputable def eO  : List ByteArray→Nat→(List ByteArray)→Option sK|[],i,v3=>some (.x0 v3)|hd::rest,i,v3=>(ap v3 (i:Int)).bind fun g1=>eO rest (i+1) (v3.set (i:Int).toNat hd)
theorem Ap (v0:List ByteArray)(rest:List ByteArray):∀(i:Nat)(v3:List ByteArray),(v0).drop i=rest→v0.length≤9223372036854775807→Ans (eO rest i v3) (Aq v0 v3 (i:Int)):=by
 induction rest with
 |nil =>intro i v3 a b;have hb:=bw a;unfold eO;exact NN (NP (show sJ (lh v0 v3 (i:Int)) (.exit 0) (mt v3)from RP [N2 (v0.length:Int),.b false] (ALn v0 etS<|AC hb<|AN)) (by intro h;cases h))
 |cons hd rest d =>intro i v3 a b;have hb:=a8 a;have e:=ba a b;have c:=aG a;have f:=bc a;unfold eO;refine NR (fun g1 g => ?_);exact(d (i+1) (v3.set (i:Int).toNat hd) c b).mono fun y j=>by have r:sJ (lh v0 v3 (i:Int)) .normal (lh v0 (v3.set (i:Int).toNat hd) (inc (i:Int))):=RP [N2 (v0.length:Int),.b true,.row (etS hd),.row (etS g1),.rows ((v3.set (i:Int).toNat hd).map etS)] (ALn v0 etS<|AC hb<|AR etS f<|AG etS g<|AC (p:=(v3.map etS).set (0+(i:Int).toNat) (an (etS g1) 0 [tS hd])=(v3.set (i:Int).toNat hd).map etS) (cB (by rfl))<|AN);rw[e]at r;cases y<;>exact NO r j
noncomputable def o9 (x0:List ByteArray):Option ((List ByteArray)):=
  if 0≤(x0.length:Int)∧(x0.length:Int)≤(x0.length:Int)∧((16:Nat):Int)*(x0.length:Int)≤281474976710656∧(x0.length:Int)≤4611686018427387904 then if x0.length≤9223372036854775807 then(eO x0 0 (List.replicate (x0.length:Int).toNat ByteArray.empty)).bind fun y=>match y with
   | .x0 a=>(some (a))else none else none
theorem Cd (x0:List ByteArray):Ans (o9 x0) (fun r=>Does E 62 [.one (.s .far () 1 (x0.map etS))] [(false,[.s .own () 1 (r.map etS)])]):=by
 unfold o9;refine NS (fun d => ?_);refine NS (fun b => ?_);refine NR (fun y c => ?_);replace c:=Ap x0 x0 0 (List.replicate (x0.length:Int).toNat ByteArray.empty) rfl b y c;cases y with
 |x0 a =>have e:=c;exact NN (DP Tryz.f62 [N2 (x0.length:Int),.rows ((List.replicate (x0.length:Int).toNat ByteArray.empty).map etS),.lp (.exit 0) (mt a)] (ALn x0 etS<|AC d<|AC (p:=List.replicate (x0.length:Int).toNat [tS ByteArray.empty]=(List.replicate (x0.length:Int).toNat ByteArray.empty).map etS) (qv rfl)<|AL e<|AN))
def l8 (l:List ByteArray):List ByteArray:=l
theorem sb:∀(rest:List ByteArray)(i:Nat)(v:List ByteArray),(∀y∈rest,ae.sm y)→v.length=i+rest.length→eO rest i v=some (.x0 (v.take i++rest))
 |[],i,v,_,hv=>by unfold eO;rw[Qh (by simp at hv;omega)];simp
 |x::rest,i,v,h,hv=>by
  have a:=h x (by simp);have hi:i<v.length:=by simp at hv;omega
  unfold eO;rw[ex,Oa hi,N4];try rw[N5 a]
  rw[P8,sb rest (i+1) _ (fun y b=>h y (by simp[b])) (by simp at hv ⊢;omega),A9 hi];simp
theorem BS (x0:List ByteArray)(h:ae.sm x0):Does E 62 [.one (.s .far () 1 (x0.map etS))] [(false,[.s .own () 1 ((l8 x0).map etS)])]:=by exact Cd x0 _ (by unfold o9;rw[N5 (Ek 16 (by decide) h.1 rfl),N5 (iN h),sb x0 0 _ h.2 (by simp)];simp[l8])
noncomputable def tT (x0:GTask):Option (GTask):=if ae.sm x0.f4 then some ((GTask.mk x0.f0 x0.f1 x0.f2 x0.f3 (l8 x0.f4)))else none
theorem Im (x0:GTask):Ans (tT x0) (fun r=>Does E 41 [.agg (GTask.t .far x0)] [(true,GTask.t .own r)]):=by unfold tT;refine NS (fun a => ?_);exact NN (DP Tryz.f41 [.ret [(false,[.s .own () 1 ((l8 x0.f4).map etS)])]] (AD (BS x0.f4 a)<|AN))
def dK (x:GTask):GTask:=x
theorem Hp (x0:GTask)(h:ae.sm x0):Does E 41 [.agg (GTask.t .far x0)] [(true,GTask.t .own (dK x0))]:=by
 obtain⟨w0,a,b⟩:=h;exact Im x0 _ (by
  unfold tT;repeat rw[N5 (by assumption)]
  rfl)
inductive vV where|x0 (v3:List GTask)
def np (q0:Kd)(v0 v3:List GTask)(v4:Int):US:=stL 23 [(0,.one (.s .far () 5 (v0.map (GTask.t q0)))),(3,.one (.s .own () 5 (v3.map (GTask.t .own)))),(4,NZ v4)]
def nV (q0:Kd)(a:List GTask):US:=stL 23 [(3,.one (.s .own () 5 (a.map (GTask.t .own))))]
abbrev vU:US→Exit→US→Prop:=Round E 22 (aw Tryz.f22 0)
def Eh {q0:Kd}(v0 v3:List GTask)(v4:Int):vV→Prop| .x0 a=>Loops E 22 (aw Tryz.f22 0) (np q0 v0 v3 v4) (.exit 0) (nV q0 a)
noncomputable def fO  : List GTask→Nat→(List GTask)→Option vV|[],i,v3=>some (.x0 v3)|hd::rest,i,v3=>if ae.sm hd then(ap v3 (i:Int)).bind fun g1=>fO rest (i+1) (v3.set (i:Int).toNat (dK hd))else none
theorem Eg {q0:Kd}(v0:List GTask)(rest:List GTask):∀(i:Nat)(v3:List GTask),(v0).drop i=rest→v0.length≤9223372036854775807→Ans (fO rest i v3) (Eh (q0:=q0) v0 v3 (i:Int)):=by
 induction rest with
 |nil =>intro i v3 a b;have hb:=bw a;unfold fO;exact NN (NP (show vU (np q0 v0 v3 (i:Int)) (.exit 0) (nV q0 v3)from RP [N2 (v0.length:Int),.b false] (ALn v0 (GTask.t q0)<|AC hb<|AN)) (by intro h;cases h))
 |cons hd rest d =>intro i v3 a b;have hb:=a8 a;have e:=ba a b;have c:=aG a;have f:=bc a;unfold fO;refine NS (fun g => ?_);refine NR (fun g1 j => ?_);exact(d (i+1) (v3.set (i:Int).toNat (dK hd)) c b).mono fun y k=>by have r:vU (np q0 v0 v3 (i:Int)) .normal (np q0 v0 (v3.set (i:Int).toNat (dK hd)) (inc (i:Int))):=RP [N2 (v0.length:Int),.b true,.row ((GTask.t q0) hd),.ret [(true,GTask.t .own (dK hd))],.row ((GTask.t .own) g1),.rows ((v3.set (i:Int).toNat (dK hd)).map (GTask.t .own))] (ALn v0 (GTask.t q0)<|AC hb<|AR (GTask.t q0) f<|AD (Hp hd g)<|AG (GTask.t .own) j<|AC (p:=(v3.map (GTask.t .own)).set (0+(i:Int).toNat) (an ((GTask.t .own) g1) 0 [tS ((dK hd).f0),tS ((dK hd).f1),tI ((dK hd).f2),tB ((dK hd).f3),.s .own () 1 (((dK hd).f4).map etS)])=(v3.set (i:Int).toNat (dK hd)).map (GTask.t .own)) (cB (by rfl))<|AN);rw[e]at r;cases y<;>exact NO r k
noncomputable def rK (x0:List GTask):Option ((List GTask)):=
  if 0≤(x0.length:Int)∧(x0.length:Int)≤(x0.length:Int)∧((72:Nat):Int)*(x0.length:Int)≤281474976710656∧(x0.length:Int)≤4611686018427387904 then if x0.length≤9223372036854775807 then(fO x0 0 (List.replicate (x0.length:Int).toNat (GTask.mk ByteArray.empty ByteArray.empty 0 false ([]:List ByteArray)))).bind fun y=>match y with
   | .x0 a=>(some (a))else none else none
theorem Gc {q0:Kd}(x0:List GTask):Ans (rK x0) (fun r=>Does E 22 [.one (.s .far () 5 (x0.map (GTask.t q0)))] [(false,[.s .own () 5 (r.map (GTask.t .own))])]):=by
 unfold rK;refine NS (fun d => ?_);refine NS (fun b => ?_);refine NR (fun y c => ?_);replace c:=Eg (q0:=q0) x0 x0 0 (List.replicate (x0.length:Int).toNat (GTask.mk ByteArray.empty ByteArray.empty 0 false ([]:List ByteArray))) rfl b y c;cases y with
 |x0 a =>have e:=c;exact NN (DP Tryz.f22 [N2 (x0.length:Int),.rows ((List.replicate (x0.length:Int).toNat (GTask.mk ByteArray.empty ByteArray.empty 0 false ([]:List ByteArray))).map (GTask.t .own)),.lp (.exit 0) (nV q0 a)] (ALn x0 (GTask.t q0)<|AC d<|AC (p:=List.replicate (x0.length:Int).toNat [tS ByteArray.empty,tS ByteArray.empty,tI 0,tB false,.s .own () 1 (([]:List ByteArray).map etS)]=(List.replicate (x0.length:Int).toNat (GTask.mk ByteArray.empty ByteArray.empty 0 false ([]:List ByteArray))).map (GTask.t .own)) (qv rfl)<|AL e<|AN))
def j9 (l:List GTask):List GTask:=l
theorem vd:∀(rest:List GTask)(i:Nat)(v:List GTask),(∀y∈rest,ae.sm y)→v.length=i+rest.length→fO rest i v=some (.x0 (v.take i++rest))
 |[],i,v,_,hv=>by unfold fO;rw[Qh (by simp at hv;omega)];simp
 |x::rest,i,v,h,hv=>by
  have a:=h x (by simp);have hi:i<v.length:=by simp at hv;omega
  unfold fO;rw[ex,Oa hi,N4];try rw[N5 a]
  rw[P8,vd rest (i+1) _ (fun y b=>h y (by simp[b])) (by simp at hv ⊢;omega),A9 hi];simp[dK]
theorem Fq {q0:Kd}(x0:List GTask)(h:ae.sm x0):Does E 22 [.one (.s .far () 5 (x0.map (GTask.t q0)))] [(false,[.s .own () 5 ((j9 x0).map (GTask.t .own))])]:=by exact Gc x0 _ (by unfold rK;rw[N5 (Ek 72 (by decide) h.1 rfl),N5 (iN h),vd x0 0 _ h.2 (by simp)];simp[j9])
noncomputable def vS (x0:LDag):Option (GDag):=if ae.sm x0.f5 then some ((GDag.mk x0.f0 x0.f1 x0.f2 x0.f3 x0.f4 (j9 x0.f5)))else none
theorem JS {q0:Kd}(x0:LDag):Ans (vS x0) (fun r=>Does E 7 [.agg (LDag.t .far q0 x0)] [(true,GDag.t .own .own r)]):=by unfold vS;refine NS (fun a => ?_);exact NN (DP Tryz.f7 [.ret [(false,[.s .own () 5 ((j9 x0.f5).map (GTask.t .own))])]] (AV (ψ:=fun k=>E.C k 22 [.one (.s .far () 5 (x0.f5.map (GTask.t q0)))]=some [(false,[.s .own () 5 ((j9 x0.f5).map (GTask.t .own))])]) (Fq x0.f5 a)<|AN))
def fP (x:LDag):GDag:=⟨x.f0,x.f1,x.f2,x.f3,x.f4,j9 x.f5⟩
theorem IK {x:LDag}(h:ae.sm x):ae.sm (fP x):=by obtain⟨w0,a,b⟩:=h;exact⟨w0,a,b⟩
theorem I5 {q0:Kd}(x0:LDag)(h:ae.sm x0):Does E 7 [.agg (LDag.t .far q0 x0)] [(true,GDag.t .own .own (fP x0))]:=by
 obtain⟨w0,a,b⟩:=h;exact JS x0 _ (by
  unfold vS;repeat rw[N5 (by assumption)]
  rfl)
inductive sE where|ret (v4:Bool)|x0
def gT (v0 v1:List ByteArray)(v5:Int):US:=stL 26 [(0,.one (.s .far () 1 (v0.map etS))),(1,.one (.s .far () 1 (v1.map etS))),(5,NZ v5)]
def lG (a:Bool):US:=stL 26 [(4,N0 a)]
def mq  : US:=stL 26 []
abbrev nR:US→Exit→US→Prop:=Round E 72 (aw Tryz.f72 0)
def Ah (v0 v1:List ByteArray)(v5:Int):sE→Prop| .ret a=>Loops E 72 (aw Tryz.f72 0) (gT v0 v1 v5) .ret (lG a)| .x0=>Loops E 72 (aw Tryz.f72 0) (gT v0 v1 v5) (.exit 0) (mq)
noncomputable def fy (v1:List ByteArray):List ByteArray→Nat→Option sE|[],i=>some (.x0)|hd::rest,i=>(ap v1 (i:Int)).bind fun g1=>cond (!(hd.toList==g1.toList)) (some (.ret false)) (fy v1 rest (i+1))
theorem Ag (v0 v1:List ByteArray)(rest:List ByteArray):∀(i:Nat) ,(v0).drop i=rest→v0.length≤9223372036854775807→Ans (fy v1 rest i) (Ah v0 v1 (i:Int)):=by
 induction rest with
 |nil =>intro i a b;have hb:=bw a;unfold fy;exact NN (NP (show nR (gT v0 v1 (i:Int)) (.exit 0) (mq)from RP [N2 (v0.length:Int),.b false] (ALn v0 etS<|AC hb<|AN)) (by intro h;cases h))
 |cons hd rest g =>
  intro i a b;have hb:=a8 a;have j:=ba a b;have c:=aG a;have d:=bc a;unfold fy;refine NR (fun g1 e => ?_);apply NQ<;>intro f
  ·exact NN (NP (show nR (gT v0 v1 (i:Int)) .ret (lG false)from RP [N2 (v0.length:Int),.b true,.row (etS hd),.row (etS g1),.b true] (ALn v0 etS<|AC hb<|AR etS d<|AR etS e<|AC f<|AN)) (by intro h;cases h))
  ·exact(g (i+1) c b).mono fun y k=>by have r:nR (gT v0 v1 (i:Int)) .normal (gT v0 v1 (inc (i:Int))):=RP [N2 (v0.length:Int),.b true,.row (etS hd),.row (etS g1),.b false] (ALn v0 etS<|AC hb<|AR etS d<|AR etS e<|AC f<|AN);rw[j]at r;cases y<;>exact NO r k
noncomputable def o8 (x0 b:List ByteArray):Option (Bool):=
  cond ((x0.length:Int) != (b.length:Int))
   (some (false))
   (if x0.length≤9223372036854775807 then(fy b x0 0).bind fun y=>match y with
    | .ret a=>(some (a))
    | .x0=>(some (true))else none)
theorem B6 (x0 a:List ByteArray):Ans (o8 x0 a) (fun r=>Does E 72 [.one (.s .far () 1 (x0.map etS)),.one (.s .far () 1 (a.map etS))] [NX r]):=by
 unfold o8;apply NQ<;>intro d
 ·exact NN (DP Tryz.f72 [N2 (x0.length:Int),N2 (a.length:Int),.b true] (ALn x0 etS<|ALn a etS<|AC d<|AN))
 ·refine NS (fun e => ?_);refine NR (fun y c => ?_);replace c:=Ag x0 a x0 0 rfl e y c;cases y with
  |ret b =>have f:=c;exact NN (DP Tryz.f72 [N2 (x0.length:Int),N2 (a.length:Int),.b false,.lp .ret (lG b)] (ALn x0 etS<|ALn a etS<|AC d<|AL f<|AN))
  |x0 =>have f:=c;exact NN (DP Tryz.f72 [N2 (x0.length:Int),N2 (a.length:Int),.b false,.lp (.exit 0) (mq)] (ALn x0 etS<|ALn a etS<|AC d<|AL f<|AN))
theorem sf (l:List ByteArray):∀(rest:List ByteArray)(i:Nat),l.drop i=rest→(∀y∈rest,ae.sm y)→fy l rest i=some .x0
 |[],i,_,_=>rfl
 |x::rest,i,a,h=>by have b:=h x (by simp);unfold fy;rw[bc a,N4];simp only[b,OH,yes,Py,QA,Pq,Ou,Om];exact sf l rest (i+1) (aG a) (fun y c=>h y (by simp[c]))
theorem uk (x0:List ByteArray)(a:List ByteArray)(e:x0=a)(h:ae.sm x0):Does E 72 [.one (.s .far () 1 (x0.map etS)),.one (.s .far () 1 (a.map etS))] [NX (yes x0 a)]:=by subst e;exact B6 x0 x0 _ (by unfold o8;rw[N5 (iN h),sf x0 x0 0 rfl h.2];simp[yes])
noncomputable def tQ (x0 a:GTask):Option (Bool):=cond (!(x0.f0.toList==a.f0.toList)) (some (false)) (cond (!(x0.f1.toList==a.f1.toList)) (some (false)) (cond (x0.f2 != a.f2) (some (false)) (cond (!(x0.f3==a.f3)) (some (false)) (if x0.f4=a.f4 then if ae.sm x0.f4 then cond (yes x0.f4 a.f4) (some (true)) (some (false))else none else none))))
theorem Ij (x0 c:GTask):Ans (tQ x0 c) (fun r=>Does E 50 [.agg (GTask.t .far x0),.agg (GTask.t .far c)] [NX r]):=by
 unfold tQ;apply NQ<;>intro a
 ·exact NN (DP Tryz.f50 [.b true] (AC a<|AN))
 ·apply NQ<;>intro b
  ·exact NN (DP Tryz.f50 [.b false,.b true] (AC a<|AC b<|AN))
  ·apply NQ<;>intro d
   ·exact NN (DP Tryz.f50 [.b false,.b false,.b true] (AC a<|AC b<|AC d<|AN))
   ·apply NQ<;>intro e
    ·exact NN (DP Tryz.f50 [.b false,.b false,.b false,.b true] (AC a<|AC b<|AC d<|AC e<|AN))
    ·refine NS (fun f => ?_);refine NS (fun g => ?_);apply NQ<;>intro h
     ·exact NN (DP Tryz.f50 [.b false,.b false,.b false,.b false,rT] (AC a<|AC b<|AC d<|AC e<|AD (NV (uk x0.f4 c.f4 f g) h)<|AN))
     ·exact NN (DP Tryz.f50 [.b false,.b false,.b false,.b false,rF] (AC a<|AC b<|AC d<|AC e<|AD (NV (uk x0.f4 c.f4 f g) h)<|AN))
theorem yt (x0:GTask)(a:GTask)(e:x0=a)(h:ae.sm x0):Does E 50 [.agg (GTask.t .far x0),.agg (GTask.t .far a)] [NX (yes x0 a)]:=by subst e;obtain⟨w0,c,b⟩:=h;exact Ij x0 x0 _ (by unfold tQ;simp only[b,OH,yes,Py,QA,Pq,Ou,Om])
inductive vQ where|ret (v4:Bool)|x0
def jc (q0:Kd)(q1:Kd)(v0 v1:List GTask)(v5:Int):US:=stL 27 [(0,.one (.s .far () 5 (v0.map (GTask.t q0)))),(1,.one (.s .far () 5 (v1.map (GTask.t q1)))),(5,NZ v5)]
def nk (q0:Kd)(q1:Kd)(a:Bool):US:=stL 27 [(4,N0 a)]
def nS (q0:Kd)(q1:Kd)  : US:=stL 27 []
abbrev ql:US→Exit→US→Prop:=Round E 32 (aw Tryz.f32 0)
def Ea {q0:Kd}{q1:Kd}(v0 v1:List GTask)(v5:Int):vQ→Prop| .ret a=>Loops E 32 (aw Tryz.f32 0) (jc q0 q1 v0 v1 v5) .ret (nk q0 q1 a)| .x0=>Loops E 32 (aw Tryz.f32 0) (jc q0 q1 v0 v1 v5) (.exit 0) (nS q0 q1)
noncomputable def hZ (v1:List GTask):List GTask→Nat→Option vQ|[],i=>some (.x0)|hd::rest,i=>(ap v1 (i:Int)).bind fun g1=>if hd=g1 then if ae.sm hd then cond (yes hd g1) (hZ v1 rest (i+1)) (some (.ret false))else none else none
theorem D9 {q0:Kd}{q1:Kd}(v0 v1:List GTask)(rest:List GTask):∀(i:Nat) ,(v0).drop i=rest→v0.length≤9223372036854775807→Ans (hZ v1 rest i) (Ea (q0:=q0) (q1:=q1) v0 v1 (i:Int)):=by
 induction rest with
 |nil =>intro i a b;have hb:=bw a;unfold hZ;exact NN (NP (show ql (jc q0 q1 v0 v1 (i:Int)) (.exit 0) (nS q0 q1)from RP [N2 (v0.length:Int),.b false] (ALn v0 (GTask.t q0)<|AC hb<|AN)) (by intro h;cases h))
 |cons hd rest k =>
  intro i a b;have hb:=a8 a;have l:=ba a b;have c:=aG a;have d:=bc a;unfold hZ;refine NR (fun g1 e => ?_);refine NS (fun f => ?_);refine NS (fun g => ?_);apply NQ<;>intro j
  ·exact(k (i+1) c b).mono fun y m=>by have r:ql (jc q0 q1 v0 v1 (i:Int)) .normal (jc q0 q1 v0 v1 (inc (i:Int))):=RP [N2 (v0.length:Int),.b true,.row ((GTask.t q0) hd),.row ((GTask.t q1) g1),rT] (ALn v0 (GTask.t q0)<|AC hb<|AR (GTask.t q0) d<|AR (GTask.t q1) e<|AD (NV (yt hd g1 f g) j)<|AN);rw[l]at r;cases y<;>exact NO r m
  ·exact NN (NP (show ql (jc q0 q1 v0 v1 (i:Int)) .ret (nk q0 q1 false)from RP [N2 (v0.length:Int),.b true,.row ((GTask.t q0) hd),.row ((GTask.t q1) g1),rF] (ALn v0 (GTask.t q0)<|AC hb<|AR (GTask.t q0) d<|AR (GTask.t q1) e<|AD (NV (yt hd g1 f g) j)<|AN)) (by intro h;cases h))
noncomputable def rI (x0 b:List GTask):Option (Bool):=
  cond ((x0.length:Int) != (b.length:Int))
   (some (false))
   (if x0.length≤9223372036854775807 then(hZ b x0 0).bind fun y=>match y with
    | .ret a=>(some (a))
    | .x0=>(some (true))else none)
theorem F6 {q0:Kd}{q1:Kd}(x0 a:List GTask):Ans (rI x0 a) (fun r=>Does E 32 [.one (.s .far () 5 (x0.map (GTask.t q0))),.one (.s .far () 5 (a.map (GTask.t q1)))] [NX r]):=by
 unfold rI;apply NQ<;>intro d
 ·exact NN (DP Tryz.f32 [N2 (x0.length:Int),N2 (a.length:Int),.b true] (ALn x0 (GTask.t q0)<|ALn a (GTask.t q1)<|AC d<|AN))
 ·refine NS (fun e => ?_);refine NR (fun y c => ?_);replace c:=D9 (q0:=q0) (q1:=q1) x0 a x0 0 rfl e y c;cases y with
  |ret b =>have f:=c;exact NN (DP Tryz.f32 [N2 (x0.length:Int),N2 (a.length:Int),.b false,.lp .ret (nk q0 q1 b)] (ALn x0 (GTask.t q0)<|ALn a (GTask.t q1)<|AC d<|AL f<|AN))
  |x0 =>have f:=c;exact NN (DP Tryz.f32 [N2 (x0.length:Int),N2 (a.length:Int),.b false,.lp (.exit 0) (nS q0 q1)] (ALn x0 (GTask.t q0)<|ALn a (GTask.t q1)<|AC d<|AL f<|AN))
theorem vg (l:List GTask):∀(rest:List GTask)(i:Nat),l.drop i=rest→(∀y∈rest,ae.sm y)→hZ l rest i=some .x0
 |[],i,_,_=>rfl
 |x::rest,i,a,h=>by have b:=h x (by simp);unfold hZ;rw[bc a,N4];simp only[b,OH,yes,Py,QA,Pq,Ou,Om];exact vg l rest (i+1) (aG a) (fun y c=>h y (by simp[c]))
theorem wU {q0:Kd}{q1:Kd}(x0:List GTask)(a:List GTask)(e:x0=a)(h:ae.sm x0):Does E 32 [.one (.s .far () 5 (x0.map (GTask.t q0))),.one (.s .far () 5 (a.map (GTask.t q1)))] [NX (yes x0 a)]:=by subst e;exact F6 x0 x0 _ (by unfold rI;rw[N5 (iN h),vg x0 x0 0 rfl h.2];simp[yes])
noncomputable def vO (x0 a:GDag):Option (Bool):=cond (!(x0.f0.toList==a.f0.toList)) (some (false)) (cond (!(x0.f1.toList==a.f1.toList)) (some (false)) (cond (x0.f2 != a.f2) (some (false)) (cond (x0.f3 != a.f3) (some (false)) (cond (!(x0.f4==a.f4)) (some (false)) (if x0.f5=a.f5 then if ae.sm x0.f5 then cond (yes x0.f5 a.f5) (some (true)) (some (false))else none else none)))))
theorem JO {q0:Kd}{q1:Kd}(x0 b:GDag):Ans (vO x0 b) (fun r=>Does E 11 [.agg (GDag.t .far q0 x0),.agg (GDag.t .far q1 b)] [NX r]):=by
 unfold vO;apply NQ<;>intro a
 ·exact NN (DP Tryz.f11 [.b true] (AC a<|AN))
 ·apply NQ<;>intro c
  ·exact NN (DP Tryz.f11 [.b false,.b true] (AC a<|AC c<|AN))
  ·apply NQ<;>intro d
   ·exact NN (DP Tryz.f11 [.b false,.b false,.b true] (AC a<|AC c<|AC d<|AN))
   ·apply NQ<;>intro e
    ·exact NN (DP Tryz.f11 [.b false,.b false,.b false,.b true] (AC a<|AC c<|AC d<|AC e<|AN))
    ·apply NQ<;>intro f
     ·exact NN (DP Tryz.f11 [.b false,.b false,.b false,.b false,.b true] (AC a<|AC c<|AC d<|AC e<|AC f<|AN))
     ·refine NS (fun g => ?_);refine NS (fun h => ?_);apply NQ<;>intro i
      ·exact NN (DP Tryz.f11 [.b false,.b false,.b false,.b false,.b false,rT] (AC a<|AC c<|AC d<|AC e<|AC f<|AV (ψ:=fun k=>E.C k 32 [.one (.s .far () 5 (x0.f5.map (GTask.t q0))),.one (.s .far () 5 (b.f5.map (GTask.t q1)))]=some [NX true]) (NT (wU x0.f5 b.f5 g h) (by rw[i]))<|AN))
      ·exact NN (DP Tryz.f11 [.b false,.b false,.b false,.b false,.b false,rF] (AC a<|AC c<|AC d<|AC e<|AC f<|AV (ψ:=fun k=>E.C k 32 [.one (.s .far () 5 (x0.f5.map (GTask.t q0))),.one (.s .far () 5 (b.f5.map (GTask.t q1)))]=some [NX false]) (NT (wU x0.f5 b.f5 g h) (by rw[i]))<|AN))
theorem mA {q0:Kd}{q1:Kd}(x0:GDag)(a:GDag)(e:x0=a)(h:ae.sm x0):Does E 11 [.agg (GDag.t .far q0 x0),.agg (GDag.t .far q1 a)] [NX (yes x0 a)]:=by subst e;obtain⟨w0,c,b⟩:=h;exact JO x0 x0 _ (by unfold vO;simp only[b,OH,yes,Py,QA,Pq,Ou,Om])
noncomputable def jd (x0:List GState)(a:Int):Option (Int):=cond (decide ((IntKind.wrap .i64 (a-(x0.length:Int)))<(0:Int))) (some ((-1:Int))) (some (IntKind.wrap .i64 (a-(x0.length:Int))))
theorem Ec (x0:List GState)(a:Int):Ans (jd x0 a) (fun r=>Does E 16 [.one (.s .far () 4 (x0.map GState.t)),NZ a] [NW r]):=by
 unfold jd;apply NQ<;>intro b
 ·exact NN (DP Tryz.f16 [N2 (x0.length:Int),.no,.b true] (ALn x0 GState.t<|AC b<|AN))
 ·exact NN (DP Tryz.f16 [N2 (x0.length:Int),.no,.b false] (ALn x0 GState.t<|AC b<|AN))
noncomputable def eg (x:List GState)(n:Int):Int:=(jd x n).getD (-1)
theorem s6 (x:List GState)(n:Int)(h:Wf.wf x):jd x n=some (eg x n):=by refine Tot.getD ?_ _;unfold jd;refine Tot.cond (Tot.some _) ?_;exact Tot.some _
theorem uZ (x0:List GState)(a:Int)(h:Wf.wf x0):Does E 16 [.one (.s .far () 4 (x0.map GState.t)),NZ a] [NW (eg x0 a)]:=by exact Ec x0 a _ (s6 x0 a h)
theorem Ce (x:List GState)(n:Int)(a:Wf.wf x)(b:0≤n)(c:n≤1048576)(h:0≤eg x n):eg x n≤n∧ae.sm x:=by have e:=s6 x n a;generalize eg x n=r at *;unfold jd at e;obtain⟨d,e⟩:=kS e h;obtain⟨f,g⟩:=pQ (n:=n) (k:=x.length) b c a.1 d;cases e;exact⟨f,jN g,fun y _=>trivial⟩
noncomputable def mM (x0:LRun)(a:Int):Option (Int):=cond (decide ((IntKind.wrap .i64 (a-(x0.f0.size:Int)))<(0:Int))) (some ((-1:Int))) (if Wf.wf x0.f3 then cond (decide ((eg x0.f3 (IntKind.wrap .i64 (a-(x0.f0.size:Int))))<(0:Int))) (some ((-1:Int))) (some (eg x0.f3 (IntKind.wrap .i64 (a-(x0.f0.size:Int)))))else none)
theorem JR (x0:LRun)(a:Int):Ans (mM x0 a) (fun r=>Does E 5 [.agg (LRun.t .far x0),NZ a] [NW r]):=by
 unfold mM;apply NQ<;>intro b
 ·exact NN (DP Tryz.f5 [.no,.b true] (AC b<|AN))
 ·refine NS (fun c => ?_);apply NQ<;>intro d
  ·exact NN (DP Tryz.f5 [.no,.b false,.ret [NW (eg x0.f3 (IntKind.wrap .i64 (a-(x0.f0.size:Int))))],.b true] (AC b<|AD (uZ x0.f3 (IntKind.wrap .i64 (a-(x0.f0.size:Int))) c)<|AC d<|AN))
  ·exact NN (DP Tryz.f5 [.no,.b false,.ret [NW (eg x0.f3 (IntKind.wrap .i64 (a-(x0.f0.size:Int))))],.b false] (AC b<|AD (uZ x0.f3 (IntKind.wrap .i64 (a-(x0.f0.size:Int))) c)<|AC d<|AN))
noncomputable def dB (x:LRun)(n:Int):Int:=(mM x n).getD (-1)
theorem xI (x:LRun)(n:Int)(h:Wf.wf x):mM x n=some (dB x n):=by obtain⟨w0,a,b⟩:=h;refine Tot.getD ?_ _;unfold mM;repeat' (first|exact Tot.some _|apply Tot.cond|refine Tot.ite (by assumption) ?_)
theorem iA (x0:LRun)(a:Int)(h:Wf.wf x0):Does E 5 [.agg (LRun.t .far x0),NZ a] [NW (dB x0 a)]:=by exact JR x0 a _ (xI x0 a h)
theorem Io (x:LRun)(n:Int)(b:Wf.wf x)(f:0≤n)(j:n≤1048576)(h:0≤dB x n):dB x n≤n∧ae.sm x:=by
 have e:=xI x n b;obtain⟨w0,l,a⟩:=b;generalize dB x n=r at *;unfold mM at e;obtain⟨c,e⟩:=kS e h;obtain⟨m,g⟩:=pQ (n:=n) (k:=x.f0.size) f (by omega) w0 c;generalize IntKind.wrap .i64 (n-(x.f0.size:Int))=d at *;try rw[N5 a]at e
 obtain⟨a2,e⟩:=kS e h;try rw[N5 a]at e
 obtain⟨o,i⟩:=Ce x.f3 d a c (by omega) a2;generalize eg x.f3 d=p at *;cases e;exact⟨by omega,⟨jN g,trivial,i⟩⟩
noncomputable def tR (x0:GSpan):Option (GSpan):=some (x0)
theorem Il (x0:GSpan):Ans (tR x0) (fun r=>Does E 23 [.agg (GSpan.t x0)] [(true,GSpan.t r)]):=by unfold tR;exact NN (DP Tryz.f23 [] AN)
def pH (x:GSpan):GSpan:=x
theorem Ho (x0:GSpan)(h:ae.sm x0):Does E 23 [.agg (GSpan.t x0)] [(true,GSpan.t (pH x0))]:=by
 skip
 exact Il x0 _ (by
  unfold tR;repeat rw[N5 (by assumption)]
  rfl)
noncomputable def rJ (x0:GState):Option (GState):=some (x0)
theorem Gb (x0:GState):Ans (rJ x0) (fun r=>Does E 42 [.agg (GState.t x0)] [(true,GState.t r)]):=by unfold rJ;exact NN (DP Tryz.f42 [] AN)
def dF (x:GState):GState:=x
theorem Fp (x0:GState)(h:ae.sm x0):Does E 42 [.agg (GState.t x0)] [(true,GState.t (dF x0))]:=by
 skip
 exact Gb x0 _ (by
  unfold rJ;repeat rw[N5 (by assumption)]
  rfl)
inductive uA where|x0 (v3:List GState)
def l5 (v0 v3:List GState)(v4:Int):US:=stL 23 [(0,.one (.s .far () 4 (v0.map GState.t))),(3,.one (.s .own () 4 (v3.map GState.t))),(4,NZ v4)]
def nn (a:List GState):US:=stL 23 [(3,.one (.s .own () 4 (a.map GState.t)))]
abbrev uz:US→Exit→US→Prop:=Round E 24 (aw Tryz.f24 0)
def Cc (v0 v3:List GState)(v4:Int):uA→Prop| .x0 a=>Loops E 24 (aw Tryz.f24 0) (l5 v0 v3 v4) (.exit 0) (nn a)
noncomputable def fo  : List GState→Nat→(List GState)→Option uA|[],i,v3=>some (.x0 v3)|hd::rest,i,v3=>if ae.sm hd then(ap v3 (i:Int)).bind fun g1=>fo rest (i+1) (v3.set (i:Int).toNat (dF hd))else none
theorem Cb (v0:List GState)(rest:List GState):∀(i:Nat)(v3:List GState),(v0).drop i=rest→v0.length≤9223372036854775807→Ans (fo rest i v3) (Cc v0 v3 (i:Int)):=by
 induction rest with
 |nil =>intro i v3 a b;have hb:=bw a;unfold fo;exact NN (NP (show uz (l5 v0 v3 (i:Int)) (.exit 0) (nn v3)from RP [N2 (v0.length:Int),.b false] (ALn v0 GState.t<|AC hb<|AN)) (by intro h;cases h))
 |cons hd rest d =>intro i v3 a b;have hb:=a8 a;have e:=ba a b;have c:=aG a;have f:=bc a;unfold fo;refine NS (fun g => ?_);refine NR (fun g1 j => ?_);exact(d (i+1) (v3.set (i:Int).toNat (dF hd)) c b).mono fun y k=>by have r:uz (l5 v0 v3 (i:Int)) .normal (l5 v0 (v3.set (i:Int).toNat (dF hd)) (inc (i:Int))):=RP [N2 (v0.length:Int),.b true,.row (GState.t hd),.ret [(true,GState.t (dF hd))],.row (GState.t g1),.rows ((v3.set (i:Int).toNat (dF hd)).map GState.t)] (ALn v0 GState.t<|AC hb<|AR GState.t f<|AD (Fp hd g)<|AG GState.t j<|AC (p:=(v3.map GState.t).set (0+(i:Int).toNat) (an (GState.t g1) 0 [tI ((dF hd).f0),tI ((dF hd).f1),tI ((dF hd).f2),tI ((dF hd).f3)])=(v3.set (i:Int).toNat (dF hd)).map GState.t) (cB (by rfl))<|AN);rw[e]at r;cases y<;>exact NO r k
noncomputable def qp (x0:List GState):Option ((List GState)):=
  if 0≤(x0.length:Int)∧(x0.length:Int)≤(x0.length:Int)∧((32:Nat):Int)*(x0.length:Int)≤281474976710656∧(x0.length:Int)≤4611686018427387904 then if x0.length≤9223372036854775807 then(fo x0 0 (List.replicate (x0.length:Int).toNat (GState.mk 0 0 0 0))).bind fun y=>match y with
   | .x0 a=>(some (a))else none else none
theorem Ef (x0:List GState):Ans (qp x0) (fun r=>Does E 24 [.one (.s .far () 4 (x0.map GState.t))] [(false,[.s .own () 4 (r.map GState.t)])]):=by
 unfold qp;refine NS (fun d => ?_);refine NS (fun b => ?_);refine NR (fun y c => ?_);replace c:=Cb x0 x0 0 (List.replicate (x0.length:Int).toNat (GState.mk 0 0 0 0)) rfl b y c;cases y with
 |x0 a =>have e:=c;exact NN (DP Tryz.f24 [N2 (x0.length:Int),.rows ((List.replicate (x0.length:Int).toNat (GState.mk 0 0 0 0)).map GState.t),.lp (.exit 0) (nn a)] (ALn x0 GState.t<|AC d<|AC (p:=List.replicate (x0.length:Int).toNat [tI 0,tI 0,tI 0,tI (0:Int)]=(List.replicate (x0.length:Int).toNat (GState.mk 0 0 0 0)).map GState.t) (qv rfl)<|AL e<|AN))
def kL (l:List GState):List GState:=l
theorem uo:∀(rest:List GState)(i:Nat)(v:List GState),(∀y∈rest,ae.sm y)→v.length=i+rest.length→fo rest i v=some (.x0 (v.take i++rest))
 |[],i,v,_,hv=>by unfold fo;rw[Qh (by simp at hv;omega)];simp
 |x::rest,i,v,h,hv=>by
  have a:=h x (by simp);have hi:i<v.length:=by simp at hv;omega
  unfold fo;rw[ex,Oa hi,N4];try rw[N5 a]
  rw[P8,uo rest (i+1) _ (fun y b=>h y (by simp[b])) (by simp at hv ⊢;omega),A9 hi];simp[dF]
theorem C5 (x0:List GState)(h:ae.sm x0):Does E 24 [.one (.s .far () 4 (x0.map GState.t))] [(false,[.s .own () 4 ((kL x0).map GState.t)])]:=by exact Ef x0 _ (by unfold qp;rw[N5 (Ek 32 (by decide) h.1 rfl),N5 (iN h),uo x0 0 _ h.2 (by simp)];simp[kL])
noncomputable def vT (x0:LRun):Option (GRun):=if ae.sm x0.f1 then if ae.sm x0.f3 then some ((GRun.mk x0.f0 (pH x0.f1) x0.f2 (kL x0.f3)))else none else none
theorem JT (x0:LRun):Ans (vT x0) (fun r=>Does E 8 [.agg (LRun.t .far x0)] [(true,GRun.t .own r)]):=by unfold vT;refine NS (fun a => ?_);refine NS (fun b => ?_);exact NN (DP Tryz.f8 [.ret [(true,GSpan.t (pH x0.f1))],.ret [(false,[.s .own () 4 ((kL x0.f3).map GState.t)])]] (AD (Ho x0.f1 a)<|AD (C5 x0.f3 b)<|AN))
def gM (x:LRun):GRun:=⟨x.f0,pH x.f1,x.f2,kL x.f3⟩
theorem IL {x:LRun}(h:ae.sm x):ae.sm (gM x):=by obtain⟨w0,a,b⟩:=h;exact⟨w0,a,b⟩
theorem I6 (x0:LRun)(h:ae.sm x0):Does E 8 [.agg (LRun.t .far x0)] [(true,GRun.t .own (gM x0))]:=by
 obtain⟨w0,a,b⟩:=h;exact JT x0 _ (by
  unfold vT;repeat rw[N5 (by assumption)]
  rfl)
noncomputable def tP (x0 a:GSpan):Option (Bool):=cond (x0.f0 != a.f0) (some (false)) (cond (x0.f1 != a.f1) (some (false)) (some (true)))
theorem Ii (x0 b:GSpan):Ans (tP x0 b) (fun r=>Does E 30 [.agg (GSpan.t x0),.agg (GSpan.t b)] [NX r]):=by
 unfold tP;apply NQ<;>intro a
 ·exact NN (DP Tryz.f30 [.b true] (AC a<|AN))
 ·apply NQ<;>intro c
  ·exact NN (DP Tryz.f30 [.b false,.b true] (AC a<|AC c<|AN))
  ·exact NN (DP Tryz.f30 [.b false,.b false] (AC a<|AC c<|AN))
theorem pu (x0:GSpan)(a:GSpan)(e:x0=a)(h:ae.sm x0):Does E 30 [.agg (GSpan.t x0),.agg (GSpan.t a)] [NX (yes x0 a)]:=by
 subst e
 skip
 exact Ii x0 x0 _ (by unfold tP;simp only[OH,yes,Py,QA,Pq,Ou,Om])
noncomputable def rH (x0 a:GState):Option (Bool):=cond (x0.f0 != a.f0) (some (false)) (cond (x0.f1 != a.f1) (some (false)) (cond (x0.f2 != a.f2) (some (false)) (cond (x0.f3 != a.f3) (some (false)) (some (true)))))
theorem F5 (x0 d:GState):Ans (rH x0 d) (fun r=>Does E 49 [.agg (GState.t x0),.agg (GState.t d)] [NX r]):=by
 unfold rH;apply NQ<;>intro a
 ·exact NN (DP Tryz.f49 [.b true] (AC a<|AN))
 ·apply NQ<;>intro b
  ·exact NN (DP Tryz.f49 [.b false,.b true] (AC a<|AC b<|AN))
  ·apply NQ<;>intro c
   ·exact NN (DP Tryz.f49 [.b false,.b false,.b true] (AC a<|AC b<|AC c<|AN))
   ·apply NQ<;>intro e
    ·exact NN (DP Tryz.f49 [.b false,.b false,.b false,.b true] (AC a<|AC b<|AC c<|AC e<|AN))
    ·exact NN (DP Tryz.f49 [.b false,.b false,.b false,.b false] (AC a<|AC b<|AC c<|AC e<|AN))
theorem wT (x0:GState)(a:GState)(e:x0=a)(h:ae.sm x0):Does E 49 [.agg (GState.t x0),.agg (GState.t a)] [NX (yes x0 a)]:=by
 subst e
 skip
 exact F5 x0 x0 _ (by unfold rH;simp only[OH,yes,Py,QA,Pq,Ou,Om])
inductive uw where|ret (v4:Bool)|x0
def iq (v0 v1:List GState)(v5:Int):US:=stL 27 [(0,.one (.s .far () 4 (v0.map GState.t))),(1,.one (.s .far () 4 (v1.map GState.t))),(5,NZ v5)]
def mp (a:Bool):US:=stL 27 [(4,N0 a)]
def nj  : US:=stL 27 []
abbrev o7:US→Exit→US→Prop:=Round E 31 (aw Tryz.f31 0)
def B5 (v0 v1:List GState)(v5:Int):uw→Prop| .ret a=>Loops E 31 (aw Tryz.f31 0) (iq v0 v1 v5) .ret (mp a)| .x0=>Loops E 31 (aw Tryz.f31 0) (iq v0 v1 v5) (.exit 0) (nj)
noncomputable def gm (v1:List GState):List GState→Nat→Option uw|[],i=>some (.x0)|hd::rest,i=>(ap v1 (i:Int)).bind fun g1=>if hd=g1 then if ae.sm hd then cond (yes hd g1) (gm v1 rest (i+1)) (some (.ret false))else none else none
theorem B4 (v0 v1:List GState)(rest:List GState):∀(i:Nat) ,(v0).drop i=rest→v0.length≤9223372036854775807→Ans (gm v1 rest i) (B5 v0 v1 (i:Int)):=by
 induction rest with
 |nil =>intro i a b;have hb:=bw a;unfold gm;exact NN (NP (show o7 (iq v0 v1 (i:Int)) (.exit 0) (nj)from RP [N2 (v0.length:Int),.b false] (ALn v0 GState.t<|AC hb<|AN)) (by intro h;cases h))
 |cons hd rest k =>
  intro i a b;have hb:=a8 a;have l:=ba a b;have c:=aG a;have d:=bc a;unfold gm;refine NR (fun g1 e => ?_);refine NS (fun f => ?_);refine NS (fun g => ?_);apply NQ<;>intro j
  ·exact(k (i+1) c b).mono fun y m=>by have r:o7 (iq v0 v1 (i:Int)) .normal (iq v0 v1 (inc (i:Int))):=RP [N2 (v0.length:Int),.b true,.row (GState.t hd),.row (GState.t g1),rT] (ALn v0 GState.t<|AC hb<|AR GState.t d<|AR GState.t e<|AD (NV (wT hd g1 f g) j)<|AN);rw[l]at r;cases y<;>exact NO r m
  ·exact NN (NP (show o7 (iq v0 v1 (i:Int)) .ret (mp false)from RP [N2 (v0.length:Int),.b true,.row (GState.t hd),.row (GState.t g1),rF] (ALn v0 GState.t<|AC hb<|AR GState.t d<|AR GState.t e<|AD (NV (wT hd g1 f g) j)<|AN)) (by intro h;cases h))
noncomputable def qk (x0 b:List GState):Option (Bool):=
  cond ((x0.length:Int) != (b.length:Int))
   (some (false))
   (if x0.length≤9223372036854775807 then(gm b x0 0).bind fun y=>match y with
    | .ret a=>(some (a))
    | .x0=>(some (true))else none)
theorem D8 (x0 a:List GState):Ans (qk x0 a) (fun r=>Does E 31 [.one (.s .far () 4 (x0.map GState.t)),.one (.s .far () 4 (a.map GState.t))] [NX r]):=by
 unfold qk;apply NQ<;>intro d
 ·exact NN (DP Tryz.f31 [N2 (x0.length:Int),N2 (a.length:Int),.b true] (ALn x0 GState.t<|ALn a GState.t<|AC d<|AN))
 ·refine NS (fun e => ?_);refine NR (fun y c => ?_);replace c:=B4 x0 a x0 0 rfl e y c;cases y with
  |ret b =>have f:=c;exact NN (DP Tryz.f31 [N2 (x0.length:Int),N2 (a.length:Int),.b false,.lp .ret (mp b)] (ALn x0 GState.t<|ALn a GState.t<|AC d<|AL f<|AN))
  |x0 =>have f:=c;exact NN (DP Tryz.f31 [N2 (x0.length:Int),N2 (a.length:Int),.b false,.lp (.exit 0) (nj)] (ALn x0 GState.t<|ALn a GState.t<|AC d<|AL f<|AN))
theorem up (l:List GState):∀(rest:List GState)(i:Nat),l.drop i=rest→(∀y∈rest,ae.sm y)→gm l rest i=some .x0
 |[],i,_,_=>rfl
 |x::rest,i,a,h=>by have b:=h x (by simp);unfold gm;rw[bc a,N4];simp only[b,OH,yes,Py,QA,Pq,Ou,Om];exact up l rest (i+1) (aG a) (fun y c=>h y (by simp[c]))
theorem uY (x0:List GState)(a:List GState)(e:x0=a)(h:ae.sm x0):Does E 31 [.one (.s .far () 4 (x0.map GState.t)),.one (.s .far () 4 (a.map GState.t))] [NX (yes x0 a)]:=by subst e;exact D8 x0 x0 _ (by unfold qk;rw[N5 (iN h),up x0 x0 0 rfl h.2];simp[yes])
noncomputable def vP (x0 a:GRun):Option (Bool):=cond (!(x0.f0.toList==a.f0.toList)) (some (false)) (if x0.f1=a.f1 then if ae.sm x0.f1 then cond (yes x0.f1 a.f1) (cond (x0.f2 != a.f2) (some (false)) (if x0.f3=a.f3 then if ae.sm x0.f3 then cond (yes x0.f3 a.f3) (some (true)) (some (false))else none else none)) (some (false))else none else none)
theorem JP (x0 a:GRun):Ans (vP x0 a) (fun r=>Does E 10 [.agg (GRun.t .far x0),.agg (GRun.t .far a)] [NX r]):=by
 unfold vP;apply NQ<;>intro b
 ·exact NN (DP Tryz.f10 [.b true] (AC b<|AN))
 ·refine NS (fun c => ?_);refine NS (fun d => ?_);apply NQ<;>intro e
  ·apply NQ<;>intro f
   ·exact NN (DP Tryz.f10 [.b false,rT,.b true] (AC b<|AD (NV (pu x0.f1 a.f1 c d) e)<|AC f<|AN))
   ·refine NS (fun g => ?_);refine NS (fun h => ?_);apply NQ<;>intro i
    ·exact NN (DP Tryz.f10 [.b false,rT,.b false,rT] (AC b<|AD (NV (pu x0.f1 a.f1 c d) e)<|AC f<|AD (NV (uY x0.f3 a.f3 g h) i)<|AN))
    ·exact NN (DP Tryz.f10 [.b false,rT,.b false,rF] (AC b<|AD (NV (pu x0.f1 a.f1 c d) e)<|AC f<|AD (NV (uY x0.f3 a.f3 g h) i)<|AN))
  ·exact NN (DP Tryz.f10 [.b false,rF] (AC b<|AD (NV (pu x0.f1 a.f1 c d) e)<|AN))
theorem cM (x0:GRun)(a:GRun)(e:x0=a)(h:ae.sm x0):Does E 10 [.agg (GRun.t .far x0),.agg (GRun.t .far a)] [NX (yes x0 a)]:=by subst e;obtain⟨w0,b,c⟩:=h;exact JP x0 x0 _ (by unfold vP;simp only[b,c,OH,yes,Py,QA,Pq,Ou,Om])
end
end Go.Proofs.YtkgecjmfkcohkaaGreatDoor.Am
