/- What the functions that measure, copy and compare plans and runs do. -/
import Derived.Test.YtjlkcjlcmaoccaaGreatDoorPlans
namespace Go.Proofs.YtjlkcjlcmaoccaaGreatDoor.Am
open Go
set_option linter.unusedVariables false
set_option linter.unusedSimpArgs false
section
open Go.Proofs Classical
set_option maxRecDepth 100000
inductive tz where|ret (v4:Int)|x0 (v1:Int)
def hY (v0:List ByteArray)(v1 v5:Int):US:=stL 28 [(0,.one (.s .far () 1 (v0.map etS))),(1,O0 v1),(5,O0 v5)]
def mi (a:Int):US:=stL 28 [(4,O0 a)]
def m4 (a:Int):US:=stL 28 [(1,O0 a)]
abbrev oG:US→Exit→US→Prop:=Round E 58 (av Tryz.f58 0)
def Bf (v0:List ByteArray)(v1 v5:Int):tz→Prop| .ret a=>Loops E 58 (av Tryz.f58 0) (hY v0 v1 v5) .ret (mi a)| .x0 b=>Loops E 58 (av Tryz.f58 0) (hY v0 v1 v5) (.exit 0) (m4 b)
noncomputable def dR  : List ByteArray→Nat→Int→Option tz|[],i,v1=>some (.x0 v1)|hd::rest,i,v1=>cond (decide ((IntKind.wrap .i64 (v1-(hd.size:Int)))<(0:Int))) (some (.ret (-1:Int))) (dR rest (i+1) (IntKind.wrap .i64 (v1-(hd.size:Int))))
theorem Be (v0:List ByteArray)(rest:List ByteArray):∀(i:Nat)(v1:Int),(v0).drop i=rest→v0.length≤9223372036854775807→Ans (dR rest i v1) (Bf v0 v1 (i:Int)):=by
 induction rest with
 |nil =>intro i v1 a b;have hb:=aZ a;unfold dR;exact OO (OQ (show oG (hY v0 v1 (i:Int)) (.exit 0) (m4 v1)from RP [O3 (v0.length:Int),.b false] (ALn v0 etS<|AC hb<|AN)) (by intro h;cases h))
 |cons hd rest f =>
  intro i v1 a b;have hb:=aT a;have g:=aU a b;have c:=aE a;have d:=aW a;unfold dR;apply OR<;>intro e
  ·exact OO (OQ (show oG (hY v0 v1 (i:Int)) .ret (mi (-1:Int))from RP [O3 (v0.length:Int),.b true,.row (etS hd),.no,.b true] (ALn v0 etS<|AC hb<|AR etS d<|AC e<|AN)) (by intro h;cases h))
  ·exact(f (i+1) (IntKind.wrap .i64 (v1-(hd.size:Int))) c b).mono fun y j=>by have r:oG (hY v0 v1 (i:Int)) .normal (hY v0 (IntKind.wrap .i64 (v1-(hd.size:Int))) (inc (i:Int))):=RP [O3 (v0.length:Int),.b true,.row (etS hd),.no,.b false] (ALn v0 etS<|AC hb<|AR etS d<|AC e<|AN);rw[g]at r;cases y<;>exact OP r j
noncomputable def iB (x0:List ByteArray)(c:Int):Option (Int):=
  cond (decide ((IntKind.wrap .i64 (c-(x0.length:Int)))<(0:Int)))
   (some ((-1:Int)))
   (if x0.length≤9223372036854775807 then(dR x0 0 (IntKind.wrap .i64 (c-(x0.length:Int)))).bind fun y=>match y with
    | .ret a=>(some (a))
    | .x0 b=>(some (b))else none)
theorem C7 (x0:List ByteArray)(d:Int):Ans (iB x0 d) (fun r=>Does E 58 [.one (.s .far () 1 (x0.map etS)),O0 d] [OX r]):=by
 unfold iB;apply OR<;>intro e
 ·exact OO (DP Tryz.f58 [O3 (x0.length:Int),.no,.b true] (ALn x0 etS<|AC e<|AN))
 ·refine OT (fun f => ?_);refine OS (fun y c => ?_);replace c:=Be x0 x0 0 (IntKind.wrap .i64 (d-(x0.length:Int))) rfl f y c;cases y with
  |ret a =>have g:=c;exact OO (DP Tryz.f58 [O3 (x0.length:Int),.no,.b false,.lp .ret (mi a)] (ALn x0 etS<|AC e<|AL g<|AN))
  |x0 b =>have g:=c;exact OO (DP Tryz.f58 [O3 (x0.length:Int),.no,.b false,.lp (.exit 0) (m4 b)] (ALn x0 etS<|AC e<|AL g<|AN))
noncomputable def dJ (x:List ByteArray)(n:Int):Int:=(iB x n).getD (-1)
theorem tU:∀(rest:List ByteArray)(i:Nat)(n:Int),(∀y∈rest,Wf.wf y)→Tot (dR rest i n)
 |[],i,n,_=>Tot.some _
 |x::rest,i,n,h=>by
  have c:=h x (by simp);have a:=fun i n=>tU rest i n fun y b=>h y (by simp[b])
  unfold dR;repeat' (first|exact Tot.some _|exact a _ _|apply Tot.cond|refine Tot.ite (by assumption) ?_)
theorem r8 (x:List ByteArray)(n:Int)(h:Wf.wf x):iB x n=some (dJ x n):=by refine Tot.getD ?_ _;unfold iB;refine Tot.cond (Tot.some _) ?_;refine Tot.ite h.1 (Tot.bind (tU x 0 _ h.2) fun y a => ?_);cases y<;>exact Tot.some _
theorem uZ (x0:List ByteArray)(a:Int)(h:Wf.wf x0):Does E 58 [.one (.s .far () 1 (x0.map etS)),O0 a] [OX (dJ x0 a)]:=by exact C7 x0 a _ (r8 x0 a h)
theorem rS:∀(rest:List ByteArray)(i:Nat)(n:Int),(∀y∈rest,Wf.wf y)→0≤n→n≤1048576→∀y,dR rest i n=some y →
  (∃m,y = .x0 m∧0≤m∧m≤n∧∀z∈rest,ae.sm z)∨∃m,y = .ret m∧m<0
 |[],i,n,_,a,f,y,e=>by cases e;exact .inl ⟨n,rfl,a,Qe _,fun z hz=>by cases hz⟩
 |x::rest,i,n,h,a,f,y,e=>by
  have d:=h x (by simp);unfold dR at e;try rw[O6 d]at e
  by_cases q:IntKind.wrap .i64 (n-(x.size:Int))<0
  ·rw[Ph q,Pk]at e;cases e;exact .inr ⟨_,rfl,by omega⟩
  ·rw[Pg q,Pt]at e;try rw[O6 d]at e
   obtain⟨b,c⟩:=qw a f d (by omega);rcases rS rest _ _ (fun y j=>h y (by simp[j])) (by omega) (by omega) y e with⟨m,g1,k,g3,g4⟩|g
   ·refine .inl ⟨m,g1,k,by omega,fun z hz => ?_⟩;rcases PD.1 hz with rfl|hz
    ·exact kj c
    ·exact g4 z hz
   ·exact .inr g
theorem Bi (x:List ByteArray)(n:Int)(a:Wf.wf x)(d:0≤n)(f:n≤1048576)(h:0≤dJ x n):dJ x n≤n∧ae.sm x:=by
 have e:=r8 x n a;generalize dJ x n=r at *;unfold iB at e;obtain⟨b,e⟩:=lr e h;obtain⟨l,i⟩:=qw (n:=n) (k:=x.length) d f a.1 b;rw[O6 a.1,O7]at e;obtain⟨y,j,c⟩:=e;rcases rS x 0 _ a.2 b (by omega) y j with⟨m,rfl,o,g3,g4⟩|⟨m,rfl,g⟩
 ·cases c;exact⟨by omega,kj i,g4⟩
 ·cases c;omega
noncomputable def lM (x0:GTask)(a:Int):Option (Int):=cond (decide ((IntKind.wrap .i64 (a-(x0.f0.size:Int)))<(0:Int))) (some ((-1:Int))) (cond (decide ((IntKind.wrap .i64 ((IntKind.wrap .i64 (a-(x0.f0.size:Int)))-(x0.f1.size:Int)))<(0:Int))) (some ((-1:Int))) (if Wf.wf x0.f4 then cond (decide ((dJ x0.f4 (IntKind.wrap .i64 ((IntKind.wrap .i64 (a-(x0.f0.size:Int)))-(x0.f1.size:Int))))<(0:Int))) (some ((-1:Int))) (some (dJ x0.f4 (IntKind.wrap .i64 ((IntKind.wrap .i64 (a-(x0.f0.size:Int)))-(x0.f1.size:Int)))))else none))
theorem Jr (x0:GTask)(a:Int):Ans (lM x0 a) (fun r=>Does E 39 [.agg (GTask.t .far x0),O0 a] [OX r]):=by
 unfold lM;apply OR<;>intro b
 ·exact OO (DP Tryz.f39 [.no,.b true] (AC b<|AN))
 ·apply OR<;>intro c
  ·exact OO (DP Tryz.f39 [.no,.b false,.no,.b true] (AC b<|AC c<|AN))
  ·refine OT (fun d => ?_);apply OR<;>intro e
   ·exact OO (DP Tryz.f39 [.no,.b false,.no,.b false,.ret [OX (dJ x0.f4 (IntKind.wrap .i64 ((IntKind.wrap .i64 (a-(x0.f0.size:Int)))-(x0.f1.size:Int))))],.b true] (AC b<|AC c<|AD (uZ x0.f4 (IntKind.wrap .i64 ((IntKind.wrap .i64 (a-(x0.f0.size:Int)))-(x0.f1.size:Int))) d)<|AC e<|AN))
   ·exact OO (DP Tryz.f39 [.no,.b false,.no,.b false,.ret [OX (dJ x0.f4 (IntKind.wrap .i64 ((IntKind.wrap .i64 (a-(x0.f0.size:Int)))-(x0.f1.size:Int))))],.b false] (AC b<|AC c<|AD (uZ x0.f4 (IntKind.wrap .i64 ((IntKind.wrap .i64 (a-(x0.f0.size:Int)))-(x0.f1.size:Int))) d)<|AC e<|AN))
noncomputable def eE (x:GTask)(n:Int):Int:=(lM x n).getD (-1)
theorem xk (x:GTask)(n:Int)(h:Wf.wf x):lM x n=some (eE x n):=by obtain⟨w0,a,b⟩:=h;refine Tot.getD ?_ _;unfold lM;repeat' (first|exact Tot.some _|apply Tot.cond|refine Tot.ite (by assumption) ?_)
theorem zb (x0:GTask)(a:Int)(h:Wf.wf x0):Does E 39 [.agg (GTask.t .far x0),O0 a] [OX (eE x0 a)]:=by exact Jr x0 a _ (xk x0 a h)
theorem Hg (x:GTask)(n:Int)(b:Wf.wf x)(g:0≤n)(o:n≤1048576)(h:0≤eE x n):eE x n≤n∧ae.sm x:=by
 have e:=xk x n b;obtain⟨w0,i,a⟩:=b;generalize eE x n=r at *;unfold lM at e;obtain⟨c,e⟩:=lr e h;obtain⟨p,j⟩:=qw (n:=n) (k:=x.f0.size) g (by omega) w0 c;generalize IntKind.wrap .i64 (n-(x.f0.size:Int))=d at *;obtain⟨a2,e⟩:=lr e h;obtain⟨q,l⟩:=qw (n:=d) (k:=x.f1.size) c (by omega) i a2;generalize IntKind.wrap .i64 (d-(x.f1.size:Int))=f at *;try rw[O6 a]at e
 obtain⟨a3,e⟩:=lr e h;try rw[O6 a]at e
 obtain⟨s,m⟩:=Bi x.f4 f a a2 (by omega) a3;generalize dJ x.f4 f=t at *;cases e;exact⟨by omega,⟨kj j,kj l,m⟩⟩
inductive wJ where|ret (v4:Int)|x0 (v1:Int)
def jw (q0:Kd)(v0:List GTask)(v1 v5:Int):US:=stL 27 [(0,.one (.s .far () 5 (v0.map (GTask.t q0)))),(1,O0 v1),(5,O0 v5)]
def nW (q0:Kd)(a:Int):US:=stL 27 [(4,O0 a)]
def oH (q0:Kd)(a:Int):US:=stL 27 [(1,O0 a)]
abbrev q9:US→Exit→US→Prop:=Round E 15 (av Tryz.f15 0)
def Fb {q0:Kd}(v0:List GTask)(v1 v5:Int):wJ→Prop| .ret a=>Loops E 15 (av Tryz.f15 0) (jw q0 v0 v1 v5) .ret (nW q0 a)| .x0 b=>Loops E 15 (av Tryz.f15 0) (jw q0 v0 v1 v5) (.exit 0) (oH q0 b)
noncomputable def fj  : List GTask→Nat→Int→Option wJ|[],i,v1=>some (.x0 v1)|hd::rest,i,v1=>if Wf.wf hd then cond (decide ((eE hd v1)<(0:Int))) (some (.ret (-1:Int))) (fj rest (i+1) (eE hd v1))else none
theorem Fa {q0:Kd}(v0:List GTask)(rest:List GTask):∀(i:Nat)(v1:Int),(v0).drop i=rest→v0.length≤9223372036854775807→Ans (fj rest i v1) (Fb (q0:=q0) v0 v1 (i:Int)):=by
 induction rest with
 |nil =>intro i v1 a b;have hb:=aZ a;unfold fj;exact OO (OQ (show q9 (jw q0 v0 v1 (i:Int)) (.exit 0) (oH q0 v1)from RP [O3 (v0.length:Int),.b false] (ALn v0 (GTask.t q0)<|AC hb<|AN)) (by intro h;cases h))
 |cons hd rest g =>
  intro i v1 a b;have hb:=aT a;have j:=aU a b;have c:=aE a;have d:=aW a;unfold fj;refine OT (fun e => ?_);apply OR<;>intro f
  ·exact OO (OQ (show q9 (jw q0 v0 v1 (i:Int)) .ret (nW q0 (-1:Int))from RP [O3 (v0.length:Int),.b true,.row ((GTask.t q0) hd),.ret [OX (eE hd v1)],.b true] (ALn v0 (GTask.t q0)<|AC hb<|AR (GTask.t q0) d<|AD (zb hd v1 e)<|AC f<|AN)) (by intro h;cases h))
  ·exact(g (i+1) (eE hd v1) c b).mono fun y k=>by have r:q9 (jw q0 v0 v1 (i:Int)) .normal (jw q0 v0 (eE hd v1) (inc (i:Int))):=RP [O3 (v0.length:Int),.b true,.row ((GTask.t q0) hd),.ret [OX (eE hd v1)],.b false] (ALn v0 (GTask.t q0)<|AC hb<|AR (GTask.t q0) d<|AD (zb hd v1 e)<|AC f<|AN);rw[j]at r;cases y<;>exact OP r k
noncomputable def kB (x0:List GTask)(c:Int):Option (Int):=
  cond (decide ((IntKind.wrap .i64 (c-(x0.length:Int)))<(0:Int)))
   (some ((-1:Int)))
   (if x0.length≤9223372036854775807 then(fj x0 0 (IntKind.wrap .i64 (c-(x0.length:Int)))).bind fun y=>match y with
    | .ret a=>(some (a))
    | .x0 b=>(some (b))else none)
theorem Hd {q0:Kd}(x0:List GTask)(d:Int):Ans (kB x0 d) (fun r=>Does E 15 [.one (.s .far () 5 (x0.map (GTask.t q0))),O0 d] [OX r]):=by
 unfold kB;apply OR<;>intro e
 ·exact OO (DP Tryz.f15 [O3 (x0.length:Int),.no,.b true] (ALn x0 (GTask.t q0)<|AC e<|AN))
 ·refine OT (fun f => ?_);refine OS (fun y c => ?_);replace c:=Fa (q0:=q0) x0 x0 0 (IntKind.wrap .i64 (d-(x0.length:Int))) rfl f y c;cases y with
  |ret a =>have g:=c;exact OO (DP Tryz.f15 [O3 (x0.length:Int),.no,.b false,.lp .ret (nW q0 a)] (ALn x0 (GTask.t q0)<|AC e<|AL g<|AN))
  |x0 b =>have g:=c;exact OO (DP Tryz.f15 [O3 (x0.length:Int),.no,.b false,.lp (.exit 0) (oH q0 b)] (ALn x0 (GTask.t q0)<|AC e<|AL g<|AN))
noncomputable def dK (x:List GTask)(n:Int):Int:=(kB x n).getD (-1)
theorem xj:∀(rest:List GTask)(i:Nat)(n:Int),(∀y∈rest,Wf.wf y)→Tot (fj rest i n)
 |[],i,n,_=>Tot.some _
 |x::rest,i,n,h=>by
  have c:=h x (by simp);have a:=fun i n=>xj rest i n fun y b=>h y (by simp[b])
  unfold fj;repeat' (first|exact Tot.some _|exact a _ _|apply Tot.cond|refine Tot.ite (by assumption) ?_)
theorem vv (x:List GTask)(n:Int)(h:Wf.wf x):kB x n=some (dK x n):=by refine Tot.getD ?_ _;unfold kB;refine Tot.cond (Tot.some _) ?_;refine Tot.ite h.1 (Tot.bind (xj x 0 _ h.2) fun y a => ?_);cases y<;>exact Tot.some _
theorem xF {q0:Kd}(x0:List GTask)(a:Int)(h:Wf.wf x0):Does E 15 [.one (.s .far () 5 (x0.map (GTask.t q0))),O0 a] [OX (dK x0 a)]:=by exact Hd x0 a _ (vv x0 a h)
theorem vj:∀(rest:List GTask)(i:Nat)(n:Int),(∀y∈rest,Wf.wf y)→0≤n→n≤1048576→∀y,fj rest i n=some y →
  (∃m,y = .x0 m∧0≤m∧m≤n∧∀z∈rest,ae.sm z)∨∃m,y = .ret m∧m<0
 |[],i,n,_,a,f,y,e=>by cases e;exact .inl ⟨n,rfl,a,Qe _,fun z hz=>by cases hz⟩
 |x::rest,i,n,h,a,f,y,e=>by
  have d:=h x (by simp);unfold fj at e;try rw[O6 d]at e
  by_cases q:eE x n<0
  ·rw[Ph q,Pk]at e;cases e;exact .inr ⟨_,rfl,by omega⟩
  ·rw[Pg q,Pt]at e;try rw[O6 d]at e
   obtain⟨b,c⟩:=Hg x n d a f (by omega);rcases vj rest _ _ (fun y j=>h y (by simp[j])) (by omega) (by omega) y e with⟨m,g1,k,g3,g4⟩|g
   ·refine .inl ⟨m,g1,k,by omega,fun z hz => ?_⟩;rcases PD.1 hz with rfl|hz
    ·exact c
    ·exact g4 z hz
   ·exact .inr g
theorem Ff (x:List GTask)(n:Int)(a:Wf.wf x)(d:0≤n)(f:n≤1048576)(h:0≤dK x n):dK x n≤n∧ae.sm x:=by
 have e:=vv x n a;generalize dK x n=r at *;unfold kB at e;obtain⟨b,e⟩:=lr e h;obtain⟨l,i⟩:=qw (n:=n) (k:=x.length) d f a.1 b;rw[O6 a.1,O7]at e;obtain⟨y,j,c⟩:=e;rcases vj x 0 _ a.2 b (by omega) y j with⟨m,rfl,o,g3,g4⟩|⟨m,rfl,g⟩
 ·cases c;exact⟨by omega,kj i,g4⟩
 ·cases c;omega
noncomputable def nn (x0:LDag)(a:Int):Option (Int):=cond (decide ((IntKind.wrap .i64 (a-(x0.f0.size:Int)))<(0:Int))) (some ((-1:Int))) (cond (decide ((IntKind.wrap .i64 ((IntKind.wrap .i64 (a-(x0.f0.size:Int)))-(x0.f1.size:Int)))<(0:Int))) (some ((-1:Int))) (if Wf.wf x0.f5 then cond (decide ((dK x0.f5 (IntKind.wrap .i64 ((IntKind.wrap .i64 (a-(x0.f0.size:Int)))-(x0.f1.size:Int))))<(0:Int))) (some ((-1:Int))) (some (dK x0.f5 (IntKind.wrap .i64 ((IntKind.wrap .i64 (a-(x0.f0.size:Int)))-(x0.f1.size:Int)))))else none))
theorem KR {q0:Kd}(x0:LDag)(a:Int):Ans (nn x0 a) (fun r=>Does E 4 [.agg (LDag.t .far q0 x0),O0 a] [OX r]):=by
 unfold nn;apply OR<;>intro b
 ·exact OO (DP Tryz.f4 [.no,.b true] (AC b<|AN))
 ·apply OR<;>intro c
  ·exact OO (DP Tryz.f4 [.no,.b false,.no,.b true] (AC b<|AC c<|AN))
  ·refine OT (fun d => ?_);apply OR<;>intro e
   ·exact OO (DP Tryz.f4 [.no,.b false,.no,.b false,.ret [OX (dK x0.f5 (IntKind.wrap .i64 ((IntKind.wrap .i64 (a-(x0.f0.size:Int)))-(x0.f1.size:Int))))],.b true] (AC b<|AC c<|AV (ψ:=fun k=>E.C k 15 [.one (.s .far () 5 (x0.f5.map (GTask.t q0))),O0 (IntKind.wrap .i64 ((IntKind.wrap .i64 (a-(x0.f0.size:Int)))-(x0.f1.size:Int)))]=some [OX (dK x0.f5 (IntKind.wrap .i64 ((IntKind.wrap .i64 (a-(x0.f0.size:Int)))-(x0.f1.size:Int))))]) (xF x0.f5 (IntKind.wrap .i64 ((IntKind.wrap .i64 (a-(x0.f0.size:Int)))-(x0.f1.size:Int))) d)<|AC e<|AN))
   ·exact OO (DP Tryz.f4 [.no,.b false,.no,.b false,.ret [OX (dK x0.f5 (IntKind.wrap .i64 ((IntKind.wrap .i64 (a-(x0.f0.size:Int)))-(x0.f1.size:Int))))],.b false] (AC b<|AC c<|AV (ψ:=fun k=>E.C k 15 [.one (.s .far () 5 (x0.f5.map (GTask.t q0))),O0 (IntKind.wrap .i64 ((IntKind.wrap .i64 (a-(x0.f0.size:Int)))-(x0.f1.size:Int)))]=some [OX (dK x0.f5 (IntKind.wrap .i64 ((IntKind.wrap .i64 (a-(x0.f0.size:Int)))-(x0.f1.size:Int))))]) (xF x0.f5 (IntKind.wrap .i64 ((IntKind.wrap .i64 (a-(x0.f0.size:Int)))-(x0.f1.size:Int))) d)<|AC e<|AN))
noncomputable def aH (x:LDag)(n:Int):Int:=(nn x n).getD (-1)
theorem yn (x:LDag)(n:Int)(h:Wf.wf x):nn x n=some (aH x n):=by obtain⟨w0,a,b⟩:=h;refine Tot.getD ?_ _;unfold nn;repeat' (first|exact Tot.some _|apply Tot.cond|refine Tot.ite (by assumption) ?_)
theorem gN {q0:Kd}(x0:LDag)(a:Int)(h:Wf.wf x0):Does E 4 [.agg (LDag.t .far q0 x0),O0 a] [OX (aH x0 a)]:=by exact KR x0 a _ (yn x0 a h)
theorem Ju (x:LDag)(n:Int)(b:Wf.wf x)(g:0≤n)(o:n≤1048576)(h:0≤aH x n):aH x n≤n∧ae.sm x:=by
 have e:=yn x n b;obtain⟨w0,i,a⟩:=b;generalize aH x n=r at *;unfold nn at e;obtain⟨c,e⟩:=lr e h;obtain⟨p,j⟩:=qw (n:=n) (k:=x.f0.size) g (by omega) w0 c;generalize IntKind.wrap .i64 (n-(x.f0.size:Int))=d at *;obtain⟨a2,e⟩:=lr e h;obtain⟨q,l⟩:=qw (n:=d) (k:=x.f1.size) c (by omega) i a2;generalize IntKind.wrap .i64 (d-(x.f1.size:Int))=f at *;try rw[O6 a]at e
 obtain⟨a3,e⟩:=lr e h;try rw[O6 a]at e
 obtain⟨s,m⟩:=Ff x.f5 f a a2 (by omega) a3;generalize dK x.f5 f=t at *;cases e;exact⟨by omega,⟨kj j,kj l,m⟩⟩
inductive tC where|x0 (v3:List ByteArray)
def lN (v0 v3:List ByteArray)(v4:Int):US:=stL 22 [(0,.one (.s .far () 1 (v0.map etS))),(3,.one (.s .own () 1 (v3.map etS))),(4,O0 v4)]
def m5 (a:List ByteArray):US:=stL 22 [(3,.one (.s .own () 1 (a.map etS)))]
abbrev tA:US→Exit→US→Prop:=Round E 66 (av Tryz.f66 0)
def Bh (v0 v3:List ByteArray)(v4:Int):tC→Prop| .x0 a=>Loops E 66 (av Tryz.f66 0) (lN v0 v3 v4) (.exit 0) (m5 a)
noncomputable def eW  : List ByteArray→Nat→(List ByteArray)→Option tC|[],i,v3=>some (.x0 v3)|hd::rest,i,v3=>(am v3 (i:Int)).bind fun g1=>eW rest (i+1) (v3.set (i:Int).toNat hd)
theorem Bg (v0:List ByteArray)(rest:List ByteArray):∀(i:Nat)(v3:List ByteArray),(v0).drop i=rest→v0.length≤9223372036854775807→Ans (eW rest i v3) (Bh v0 v3 (i:Int)):=by
 induction rest with
 |nil =>intro i v3 a b;have hb:=aZ a;unfold eW;exact OO (OQ (show tA (lN v0 v3 (i:Int)) (.exit 0) (m5 v3)from RP [O3 (v0.length:Int),.b false] (ALn v0 etS<|AC hb<|AN)) (by intro h;cases h))
 |cons hd rest d =>intro i v3 a b;have hb:=aT a;have e:=aU a b;have c:=aE a;have f:=aW a;unfold eW;refine OS (fun g1 g => ?_);exact(d (i+1) (v3.set (i:Int).toNat hd) c b).mono fun y j=>by have r:tA (lN v0 v3 (i:Int)) .normal (lN v0 (v3.set (i:Int).toNat hd) (inc (i:Int))):=RP [O3 (v0.length:Int),.b true,.row (etS hd),.row (etS g1),.rows ((v3.set (i:Int).toNat hd).map etS)] (ALn v0 etS<|AC hb<|AR etS f<|AG etS g<|AC (p:=(v3.map etS).set (0+(i:Int).toNat) (au (etS g1) 0 [tS hd])=(v3.set (i:Int).toNat hd).map etS) (db (by rfl))<|AN);rw[e]at r;cases y<;>exact OP r j
noncomputable def pN (x0:List ByteArray):Option ((List ByteArray)):=
  if 0≤(x0.length:Int)∧(x0.length:Int)≤(x0.length:Int)∧((16:Nat):Int)*(x0.length:Int)≤281474976710656∧(x0.length:Int)≤4611686018427387904 then if x0.length≤9223372036854775807 then(eW x0 0 (List.replicate (x0.length:Int).toNat ByteArray.empty)).bind fun y=>match y with
   | .x0 a=>(some (a))else none else none
theorem Da (x0:List ByteArray):Ans (pN x0) (fun r=>Does E 66 [.one (.s .far () 1 (x0.map etS))] [(false,[.s .own () 1 (r.map etS)])]):=by
 unfold pN;refine OT (fun d => ?_);refine OT (fun b => ?_);refine OS (fun y c => ?_);replace c:=Bg x0 x0 0 (List.replicate (x0.length:Int).toNat ByteArray.empty) rfl b y c;cases y with
 |x0 a =>have e:=c;exact OO (DP Tryz.f66 [O3 (x0.length:Int),.rows ((List.replicate (x0.length:Int).toNat ByteArray.empty).map etS),.lp (.exit 0) (m5 a)] (ALn x0 etS<|AC d<|AC (p:=List.replicate (x0.length:Int).toNat [tS ByteArray.empty]=(List.replicate (x0.length:Int).toNat ByteArray.empty).map etS) (py rfl)<|AL e<|AN))
def mI (l:List ByteArray):List ByteArray:=l
theorem sZ:∀(rest:List ByteArray)(i:Nat)(v:List ByteArray),(∀y∈rest,ae.sm y)→v.length=i+rest.length→eW rest i v=some (.x0 (v.take i++rest))
 |[],i,v,_,hv=>by unfold eW;rw[Rj (by simp at hv;omega)];simp
 |x::rest,i,v,h,hv=>by
  have a:=h x (by simp);have hi:i<v.length:=by simp at hv;omega
  unfold eW;rw[dZ,Pb hi,O5];try rw[O6 a]
  rw[Q9,sZ rest (i+1) _ (fun y b=>h y (by simp[b])) (by simp at hv ⊢;omega),B3 hi];simp
theorem CN (x0:List ByteArray)(h:ae.sm x0):Does E 66 [.one (.s .far () 1 (x0.map etS))] [(false,[.s .own () 1 ((mI x0).map etS)])]:=by exact Da x0 _ (by unfold pN;rw[O6 (Fh 16 (by decide) h.1 rfl),O6 (iY h),sZ x0 0 _ h.2 (by simp)];simp[mI])
noncomputable def uE (x0:GTask):Option (GTask):=if ae.sm x0.f4 then some ((GTask.mk x0.f0 x0.f1 x0.f2 x0.f3 (mI x0.f4)))else none
theorem Jt (x0:GTask):Ans (uE x0) (fun r=>Does E 44 [.agg (GTask.t .far x0)] [(true,GTask.t .own r)]):=by unfold uE;refine OT (fun a => ?_);exact OO (DP Tryz.f44 [.ret [(false,[.s .own () 1 ((mI x0.f4).map etS)])]] (AD (CN x0.f4 a)<|AN))
def dS (x:GTask):GTask:=x
theorem Iq (x0:GTask)(h:ae.sm x0):Does E 44 [.agg (GTask.t .far x0)] [(true,GTask.t .own (dS x0))]:=by
 obtain⟨w0,a,b⟩:=h;exact Jt x0 _ (by
  unfold uE;repeat rw[O6 (by assumption)]
  rfl)
inductive wN where|x0 (v3:List GTask)
def nY (q0:Kd)(v0 v3:List GTask)(v4:Int):US:=stL 23 [(0,.one (.s .far () 5 (v0.map (GTask.t q0)))),(3,.one (.s .own () 5 (v3.map (GTask.t .own)))),(4,O0 v4)]
def oI (q0:Kd)(a:List GTask):US:=stL 23 [(3,.one (.s .own () 5 (a.map (GTask.t .own))))]
abbrev wM:US→Exit→US→Prop:=Round E 23 (av Tryz.f23 0)
def Fe {q0:Kd}(v0 v3:List GTask)(v4:Int):wN→Prop| .x0 a=>Loops E 23 (av Tryz.f23 0) (nY q0 v0 v3 v4) (.exit 0) (oI q0 a)
noncomputable def fV  : List GTask→Nat→(List GTask)→Option wN|[],i,v3=>some (.x0 v3)|hd::rest,i,v3=>if ae.sm hd then(am v3 (i:Int)).bind fun g1=>fV rest (i+1) (v3.set (i:Int).toNat (dS hd))else none
theorem Fd {q0:Kd}(v0:List GTask)(rest:List GTask):∀(i:Nat)(v3:List GTask),(v0).drop i=rest→v0.length≤9223372036854775807→Ans (fV rest i v3) (Fe (q0:=q0) v0 v3 (i:Int)):=by
 induction rest with
 |nil =>intro i v3 a b;have hb:=aZ a;unfold fV;exact OO (OQ (show wM (nY q0 v0 v3 (i:Int)) (.exit 0) (oI q0 v3)from RP [O3 (v0.length:Int),.b false] (ALn v0 (GTask.t q0)<|AC hb<|AN)) (by intro h;cases h))
 |cons hd rest d =>intro i v3 a b;have hb:=aT a;have e:=aU a b;have c:=aE a;have f:=aW a;unfold fV;refine OT (fun g => ?_);refine OS (fun g1 j => ?_);exact(d (i+1) (v3.set (i:Int).toNat (dS hd)) c b).mono fun y k=>by have r:wM (nY q0 v0 v3 (i:Int)) .normal (nY q0 v0 (v3.set (i:Int).toNat (dS hd)) (inc (i:Int))):=RP [O3 (v0.length:Int),.b true,.row ((GTask.t q0) hd),.ret [(true,GTask.t .own (dS hd))],.row ((GTask.t .own) g1),.rows ((v3.set (i:Int).toNat (dS hd)).map (GTask.t .own))] (ALn v0 (GTask.t q0)<|AC hb<|AR (GTask.t q0) f<|AD (Iq hd g)<|AG (GTask.t .own) j<|AC (p:=(v3.map (GTask.t .own)).set (0+(i:Int).toNat) (au ((GTask.t .own) g1) 0 [tS ((dS hd).f0),tS ((dS hd).f1),tI ((dS hd).f2),tB ((dS hd).f3),.s .own () 1 (((dS hd).f4).map etS)])=(v3.set (i:Int).toNat (dS hd)).map (GTask.t .own)) (db (by rfl))<|AN);rw[e]at r;cases y<;>exact OP r k
noncomputable def sG (x0:List GTask):Option ((List GTask)):=
  if 0≤(x0.length:Int)∧(x0.length:Int)≤(x0.length:Int)∧((72:Nat):Int)*(x0.length:Int)≤281474976710656∧(x0.length:Int)≤4611686018427387904 then if x0.length≤9223372036854775807 then(fV x0 0 (List.replicate (x0.length:Int).toNat (GTask.mk ByteArray.empty ByteArray.empty 0 false ([]:List ByteArray)))).bind fun y=>match y with
   | .x0 a=>(some (a))else none else none
theorem Hf {q0:Kd}(x0:List GTask):Ans (sG x0) (fun r=>Does E 23 [.one (.s .far () 5 (x0.map (GTask.t q0)))] [(false,[.s .own () 5 (r.map (GTask.t .own))])]):=by
 unfold sG;refine OT (fun d => ?_);refine OT (fun b => ?_);refine OS (fun y c => ?_);replace c:=Fd (q0:=q0) x0 x0 0 (List.replicate (x0.length:Int).toNat (GTask.mk ByteArray.empty ByteArray.empty 0 false ([]:List ByteArray))) rfl b y c;cases y with
 |x0 a =>have e:=c;exact OO (DP Tryz.f23 [O3 (x0.length:Int),.rows ((List.replicate (x0.length:Int).toNat (GTask.mk ByteArray.empty ByteArray.empty 0 false ([]:List ByteArray))).map (GTask.t .own)),.lp (.exit 0) (oI q0 a)] (ALn x0 (GTask.t q0)<|AC d<|AC (p:=List.replicate (x0.length:Int).toNat [tS ByteArray.empty,tS ByteArray.empty,tI 0,tB false,.s .own () 1 (([]:List ByteArray).map etS)]=(List.replicate (x0.length:Int).toNat (GTask.mk ByteArray.empty ByteArray.empty 0 false ([]:List ByteArray))).map (GTask.t .own)) (py rfl)<|AL e<|AN))
def kD (l:List GTask):List GTask:=l
theorem vN:∀(rest:List GTask)(i:Nat)(v:List GTask),(∀y∈rest,ae.sm y)→v.length=i+rest.length→fV rest i v=some (.x0 (v.take i++rest))
 |[],i,v,_,hv=>by unfold fV;rw[Rj (by simp at hv;omega)];simp
 |x::rest,i,v,h,hv=>by
  have a:=h x (by simp);have hi:i<v.length:=by simp at hv;omega
  unfold fV;rw[dZ,Pb hi,O5];try rw[O6 a]
  rw[Q9,vN rest (i+1) _ (fun y b=>h y (by simp[b])) (by simp at hv ⊢;omega),B3 hi];simp[dS]
theorem Gu {q0:Kd}(x0:List GTask)(h:ae.sm x0):Does E 23 [.one (.s .far () 5 (x0.map (GTask.t q0)))] [(false,[.s .own () 5 ((kD x0).map (GTask.t .own))])]:=by exact Hf x0 _ (by unfold sG;rw[O6 (Fh 72 (by decide) h.1 rfl),O6 (iY h),vN x0 0 _ h.2 (by simp)];simp[kD])
noncomputable def wK (x0:LDag):Option (GDag):=if ae.sm x0.f5 then some ((GDag.mk x0.f0 x0.f1 x0.f2 x0.f3 x0.f4 (kD x0.f5)))else none
theorem KT {q0:Kd}(x0:LDag):Ans (wK x0) (fun r=>Does E 7 [.agg (LDag.t .far q0 x0)] [(true,GDag.t .own .own r)]):=by unfold wK;refine OT (fun a => ?_);exact OO (DP Tryz.f7 [.ret [(false,[.s .own () 5 ((kD x0.f5).map (GTask.t .own))])]] (AV (ψ:=fun k=>E.C k 23 [.one (.s .far () 5 (x0.f5.map (GTask.t q0)))]=some [(false,[.s .own () 5 ((kD x0.f5).map (GTask.t .own))])]) (Gu x0.f5 a)<|AN))
def fW (x:LDag):GDag:=⟨x.f0,x.f1,x.f2,x.f3,x.f4,kD x.f5⟩
theorem JQ {x:LDag}(h:ae.sm x):ae.sm (fW x):=by obtain⟨w0,a,b⟩:=h;exact⟨w0,a,b⟩
theorem J4 {q0:Kd}(x0:LDag)(h:ae.sm x0):Does E 7 [.agg (LDag.t .far q0 x0)] [(true,GDag.t .own .own (fW x0))]:=by
 obtain⟨w0,a,b⟩:=h;exact KT x0 _ (by
  unfold wK;repeat rw[O6 (by assumption)]
  rfl)
inductive tu where|ret (v4:Bool)|x0
def hU (v0 v1:List ByteArray)(v5:Int):US:=stL 26 [(0,.one (.s .far () 1 (v0.map etS))),(1,.one (.s .far () 1 (v1.map etS))),(5,O0 v5)]
def mf (a:Bool):US:=stL 26 [(4,O1 a)]
def mY  : US:=stL 26 []
abbrev oE:US→Exit→US→Prop:=Round E 79 (av Tryz.f79 0)
def A9 (v0 v1:List ByteArray)(v5:Int):tu→Prop| .ret a=>Loops E 79 (av Tryz.f79 0) (hU v0 v1 v5) .ret (mf a)| .x0=>Loops E 79 (av Tryz.f79 0) (hU v0 v1 v5) (.exit 0) (mY)
noncomputable def fI (v1:List ByteArray):List ByteArray→Nat→Option tu|[],i=>some (.x0)|hd::rest,i=>(am v1 (i:Int)).bind fun g1=>cond (!(hd.toList==g1.toList)) (some (.ret false)) (fI v1 rest (i+1))
theorem A8 (v0 v1:List ByteArray)(rest:List ByteArray):∀(i:Nat) ,(v0).drop i=rest→v0.length≤9223372036854775807→Ans (fI v1 rest i) (A9 v0 v1 (i:Int)):=by
 induction rest with
 |nil =>intro i a b;have hb:=aZ a;unfold fI;exact OO (OQ (show oE (hU v0 v1 (i:Int)) (.exit 0) (mY)from RP [O3 (v0.length:Int),.b false] (ALn v0 etS<|AC hb<|AN)) (by intro h;cases h))
 |cons hd rest g =>
  intro i a b;have hb:=aT a;have j:=aU a b;have c:=aE a;have d:=aW a;unfold fI;refine OS (fun g1 e => ?_);apply OR<;>intro f
  ·exact OO (OQ (show oE (hU v0 v1 (i:Int)) .ret (mf false)from RP [O3 (v0.length:Int),.b true,.row (etS hd),.row (etS g1),.b true] (ALn v0 etS<|AC hb<|AR etS d<|AR etS e<|AC f<|AN)) (by intro h;cases h))
  ·exact(g (i+1) c b).mono fun y k=>by have r:oE (hU v0 v1 (i:Int)) .normal (hU v0 v1 (inc (i:Int))):=RP [O3 (v0.length:Int),.b true,.row (etS hd),.row (etS g1),.b false] (ALn v0 etS<|AC hb<|AR etS d<|AR etS e<|AC f<|AN);rw[j]at r;cases y<;>exact OP r k
noncomputable def pM (x0 b:List ByteArray):Option (Bool):=
  cond ((x0.length:Int) != (b.length:Int))
   (some (false))
   (if x0.length≤9223372036854775807 then(fI b x0 0).bind fun y=>match y with
    | .ret a=>(some (a))
    | .x0=>(some (true))else none)
theorem C3 (x0 a:List ByteArray):Ans (pM x0 a) (fun r=>Does E 79 [.one (.s .far () 1 (x0.map etS)),.one (.s .far () 1 (a.map etS))] [OY r]):=by
 unfold pM;apply OR<;>intro d
 ·exact OO (DP Tryz.f79 [O3 (x0.length:Int),O3 (a.length:Int),.b true] (ALn x0 etS<|ALn a etS<|AC d<|AN))
 ·refine OT (fun e => ?_);refine OS (fun y c => ?_);replace c:=A8 x0 a x0 0 rfl e y c;cases y with
  |ret b =>have f:=c;exact OO (DP Tryz.f79 [O3 (x0.length:Int),O3 (a.length:Int),.b false,.lp .ret (mf b)] (ALn x0 etS<|ALn a etS<|AC d<|AL f<|AN))
  |x0 =>have f:=c;exact OO (DP Tryz.f79 [O3 (x0.length:Int),O3 (a.length:Int),.b false,.lp (.exit 0) (mY)] (ALn x0 etS<|ALn a etS<|AC d<|AL f<|AN))
theorem s7 (l:List ByteArray):∀(rest:List ByteArray)(i:Nat),l.drop i=rest→(∀y∈rest,ae.sm y)→fI l rest i=some .x0
 |[],i,_,_=>rfl
 |x::rest,i,a,h=>by have b:=h x (by simp);unfold fI;rw[aW a,O5];simp only[b,PK,yes,QB,RE,Qu,Pt,Pk];exact s7 l rest (i+1) (aE a) (fun y c=>h y (by simp[c]))
theorem uY (x0:List ByteArray)(a:List ByteArray)(e:x0=a)(h:ae.sm x0):Does E 79 [.one (.s .far () 1 (x0.map etS)),.one (.s .far () 1 (a.map etS))] [OY (yes x0 a)]:=by subst e;exact C3 x0 x0 _ (by unfold pM;rw[O6 (iY h),s7 x0 x0 0 rfl h.2];simp[yes])
noncomputable def uC (x0 a:GTask):Option (Bool):=cond (!(x0.f0.toList==a.f0.toList)) (some (false)) (cond (!(x0.f1.toList==a.f1.toList)) (some (false)) (cond (x0.f2 != a.f2) (some (false)) (cond (!(x0.f3==a.f3)) (some (false)) (if x0.f4=a.f4 then if ae.sm x0.f4 then cond (yes x0.f4 a.f4) (some (true)) (some (false))else none else none))))
theorem Jq (x0 c:GTask):Ans (uC x0 c) (fun r=>Does E 55 [.agg (GTask.t .far x0),.agg (GTask.t .far c)] [OY r]):=by
 unfold uC;apply OR<;>intro a
 ·exact OO (DP Tryz.f55 [.b true] (AC a<|AN))
 ·apply OR<;>intro b
  ·exact OO (DP Tryz.f55 [.b false,.b true] (AC a<|AC b<|AN))
  ·apply OR<;>intro d
   ·exact OO (DP Tryz.f55 [.b false,.b false,.b true] (AC a<|AC b<|AC d<|AN))
   ·apply OR<;>intro e
    ·exact OO (DP Tryz.f55 [.b false,.b false,.b false,.b true] (AC a<|AC b<|AC d<|AC e<|AN))
    ·refine OT (fun f => ?_);refine OT (fun g => ?_);apply OR<;>intro h
     ·exact OO (DP Tryz.f55 [.b false,.b false,.b false,.b false,rT] (AC a<|AC b<|AC d<|AC e<|AD (OW (uY x0.f4 c.f4 f g) h)<|AN))
     ·exact OO (DP Tryz.f55 [.b false,.b false,.b false,.b false,rF] (AC a<|AC b<|AC d<|AC e<|AD (OW (uY x0.f4 c.f4 f g) h)<|AN))
theorem y9 (x0:GTask)(a:GTask)(e:x0=a)(h:ae.sm x0):Does E 55 [.agg (GTask.t .far x0),.agg (GTask.t .far a)] [OY (yes x0 a)]:=by subst e;obtain⟨w0,c,b⟩:=h;exact Jq x0 x0 _ (by unfold uC;simp only[b,PK,yes,QB,RE,Qu,Pt,Pk])
inductive wI where|ret (v4:Bool)|x0
def ju (q0:Kd)(q1:Kd)(v0 v1:List GTask)(v5:Int):US:=stL 27 [(0,.one (.s .far () 5 (v0.map (GTask.t q0)))),(1,.one (.s .far () 5 (v1.map (GTask.t q1)))),(5,O0 v5)]
def nU (q0:Kd)(q1:Kd)(a:Bool):US:=stL 27 [(4,O1 a)]
def oF (q0:Kd)(q1:Kd)  : US:=stL 27 []
abbrev qX:US→Exit→US→Prop:=Round E 35 (av Tryz.f35 0)
def E7 {q0:Kd}{q1:Kd}(v0 v1:List GTask)(v5:Int):wI→Prop| .ret a=>Loops E 35 (av Tryz.f35 0) (ju q0 q1 v0 v1 v5) .ret (nU q0 q1 a)| .x0=>Loops E 35 (av Tryz.f35 0) (ju q0 q1 v0 v1 v5) (.exit 0) (oF q0 q1)
noncomputable def ip (v1:List GTask):List GTask→Nat→Option wI|[],i=>some (.x0)|hd::rest,i=>(am v1 (i:Int)).bind fun g1=>if hd=g1 then if ae.sm hd then cond (yes hd g1) (ip v1 rest (i+1)) (some (.ret false))else none else none
theorem E6 {q0:Kd}{q1:Kd}(v0 v1:List GTask)(rest:List GTask):∀(i:Nat) ,(v0).drop i=rest→v0.length≤9223372036854775807→Ans (ip v1 rest i) (E7 (q0:=q0) (q1:=q1) v0 v1 (i:Int)):=by
 induction rest with
 |nil =>intro i a b;have hb:=aZ a;unfold ip;exact OO (OQ (show qX (ju q0 q1 v0 v1 (i:Int)) (.exit 0) (oF q0 q1)from RP [O3 (v0.length:Int),.b false] (ALn v0 (GTask.t q0)<|AC hb<|AN)) (by intro h;cases h))
 |cons hd rest k =>
  intro i a b;have hb:=aT a;have l:=aU a b;have c:=aE a;have d:=aW a;unfold ip;refine OS (fun g1 e => ?_);refine OT (fun f => ?_);refine OT (fun g => ?_);apply OR<;>intro j
  ·exact(k (i+1) c b).mono fun y m=>by have r:qX (ju q0 q1 v0 v1 (i:Int)) .normal (ju q0 q1 v0 v1 (inc (i:Int))):=RP [O3 (v0.length:Int),.b true,.row ((GTask.t q0) hd),.row ((GTask.t q1) g1),rT] (ALn v0 (GTask.t q0)<|AC hb<|AR (GTask.t q0) d<|AR (GTask.t q1) e<|AD (OW (y9 hd g1 f g) j)<|AN);rw[l]at r;cases y<;>exact OP r m
  ·exact OO (OQ (show qX (ju q0 q1 v0 v1 (i:Int)) .ret (nU q0 q1 false)from RP [O3 (v0.length:Int),.b true,.row ((GTask.t q0) hd),.row ((GTask.t q1) g1),rF] (ALn v0 (GTask.t q0)<|AC hb<|AR (GTask.t q0) d<|AR (GTask.t q1) e<|AD (OW (y9 hd g1 f g) j)<|AN)) (by intro h;cases h))
noncomputable def sD (x0 b:List GTask):Option (Bool):=
  cond ((x0.length:Int) != (b.length:Int))
   (some (false))
   (if x0.length≤9223372036854775807 then(ip b x0 0).bind fun y=>match y with
    | .ret a=>(some (a))
    | .x0=>(some (true))else none)
theorem G9 {q0:Kd}{q1:Kd}(x0 a:List GTask):Ans (sD x0 a) (fun r=>Does E 35 [.one (.s .far () 5 (x0.map (GTask.t q0))),.one (.s .far () 5 (a.map (GTask.t q1)))] [OY r]):=by
 unfold sD;apply OR<;>intro d
 ·exact OO (DP Tryz.f35 [O3 (x0.length:Int),O3 (a.length:Int),.b true] (ALn x0 (GTask.t q0)<|ALn a (GTask.t q1)<|AC d<|AN))
 ·refine OT (fun e => ?_);refine OS (fun y c => ?_);replace c:=E6 (q0:=q0) (q1:=q1) x0 a x0 0 rfl e y c;cases y with
  |ret b =>have f:=c;exact OO (DP Tryz.f35 [O3 (x0.length:Int),O3 (a.length:Int),.b false,.lp .ret (nU q0 q1 b)] (ALn x0 (GTask.t q0)<|ALn a (GTask.t q1)<|AC d<|AL f<|AN))
  |x0 =>have f:=c;exact OO (DP Tryz.f35 [O3 (x0.length:Int),O3 (a.length:Int),.b false,.lp (.exit 0) (oF q0 q1)] (ALn x0 (GTask.t q0)<|ALn a (GTask.t q1)<|AC d<|AL f<|AN))
theorem vR (l:List GTask):∀(rest:List GTask)(i:Nat),l.drop i=rest→(∀y∈rest,ae.sm y)→ip l rest i=some .x0
 |[],i,_,_=>rfl
 |x::rest,i,a,h=>by have b:=h x (by simp);unfold ip;rw[aW a,O5];simp only[b,PK,yes,QB,RE,Qu,Pt,Pk];exact vR l rest (i+1) (aE a) (fun y c=>h y (by simp[c]))
theorem xE {q0:Kd}{q1:Kd}(x0:List GTask)(a:List GTask)(e:x0=a)(h:ae.sm x0):Does E 35 [.one (.s .far () 5 (x0.map (GTask.t q0))),.one (.s .far () 5 (a.map (GTask.t q1)))] [OY (yes x0 a)]:=by subst e;exact G9 x0 x0 _ (by unfold sD;rw[O6 (iY h),vR x0 x0 0 rfl h.2];simp[yes])
noncomputable def wG (x0 a:GDag):Option (Bool):=cond (!(x0.f0.toList==a.f0.toList)) (some (false)) (cond (!(x0.f1.toList==a.f1.toList)) (some (false)) (cond (x0.f2 != a.f2) (some (false)) (cond (x0.f3 != a.f3) (some (false)) (cond (!(x0.f4==a.f4)) (some (false)) (if x0.f5=a.f5 then if ae.sm x0.f5 then cond (yes x0.f5 a.f5) (some (true)) (some (false))else none else none)))))
theorem KP {q0:Kd}{q1:Kd}(x0 b:GDag):Ans (wG x0 b) (fun r=>Does E 11 [.agg (GDag.t .far q0 x0),.agg (GDag.t .far q1 b)] [OY r]):=by
 unfold wG;apply OR<;>intro a
 ·exact OO (DP Tryz.f11 [.b true] (AC a<|AN))
 ·apply OR<;>intro c
  ·exact OO (DP Tryz.f11 [.b false,.b true] (AC a<|AC c<|AN))
  ·apply OR<;>intro d
   ·exact OO (DP Tryz.f11 [.b false,.b false,.b true] (AC a<|AC c<|AC d<|AN))
   ·apply OR<;>intro e
    ·exact OO (DP Tryz.f11 [.b false,.b false,.b false,.b true] (AC a<|AC c<|AC d<|AC e<|AN))
    ·apply OR<;>intro f
     ·exact OO (DP Tryz.f11 [.b false,.b false,.b false,.b false,.b true] (AC a<|AC c<|AC d<|AC e<|AC f<|AN))
     ·refine OT (fun g => ?_);refine OT (fun h => ?_);apply OR<;>intro i
      ·exact OO (DP Tryz.f11 [.b false,.b false,.b false,.b false,.b false,rT] (AC a<|AC c<|AC d<|AC e<|AC f<|AV (ψ:=fun k=>E.C k 35 [.one (.s .far () 5 (x0.f5.map (GTask.t q0))),.one (.s .far () 5 (b.f5.map (GTask.t q1)))]=some [OY true]) (OU (xE x0.f5 b.f5 g h) (by rw[i]))<|AN))
      ·exact OO (DP Tryz.f11 [.b false,.b false,.b false,.b false,.b false,rF] (AC a<|AC c<|AC d<|AC e<|AC f<|AV (ψ:=fun k=>E.C k 35 [.one (.s .far () 5 (x0.f5.map (GTask.t q0))),.one (.s .far () 5 (b.f5.map (GTask.t q1)))]=some [OY false]) (OU (xE x0.f5 b.f5 g h) (by rw[i]))<|AN))
theorem nb {q0:Kd}{q1:Kd}(x0:GDag)(a:GDag)(e:x0=a)(h:ae.sm x0):Does E 11 [.agg (GDag.t .far q0 x0),.agg (GDag.t .far q1 a)] [OY (yes x0 a)]:=by subst e;obtain⟨w0,c,b⟩:=h;exact KP x0 x0 _ (by unfold wG;simp only[b,PK,yes,QB,RE,Qu,Pt,Pk])
noncomputable def jv (x0:List GState)(a:Int):Option (Int):=cond (decide ((IntKind.wrap .i64 (a-(x0.length:Int)))<(0:Int))) (some ((-1:Int))) (some (IntKind.wrap .i64 (a-(x0.length:Int))))
theorem E9 (x0:List GState)(a:Int):Ans (jv x0 a) (fun r=>Does E 16 [.one (.s .far () 4 (x0.map GState.t)),O0 a] [OX r]):=by
 unfold jv;apply OR<;>intro b
 ·exact OO (DP Tryz.f16 [O3 (x0.length:Int),.no,.b true] (ALn x0 GState.t<|AC b<|AN))
 ·exact OO (DP Tryz.f16 [O3 (x0.length:Int),.no,.b false] (ALn x0 GState.t<|AC b<|AN))
noncomputable def ey (x:List GState)(n:Int):Int:=(jv x n).getD (-1)
theorem tV (x:List GState)(n:Int)(h:Wf.wf x):jv x n=some (ey x n):=by refine Tot.getD ?_ _;unfold jv;refine Tot.cond (Tot.some _) ?_;exact Tot.some _
theorem vG (x0:List GState)(a:Int)(h:Wf.wf x0):Does E 16 [.one (.s .far () 4 (x0.map GState.t)),O0 a] [OX (ey x0 a)]:=by exact E9 x0 a _ (tV x0 a h)
theorem Db (x:List GState)(n:Int)(a:Wf.wf x)(b:0≤n)(c:n≤1048576)(h:0≤ey x n):ey x n≤n∧ae.sm x:=by have e:=tV x n a;generalize ey x n=r at *;unfold jv at e;obtain⟨d,e⟩:=lr e h;obtain⟨f,g⟩:=qw (n:=n) (k:=x.length) b c a.1 d;cases e;exact⟨f,kj g,fun y _=>trivial⟩
noncomputable def np (x0:LRun)(a:Int):Option (Int):=cond (decide ((IntKind.wrap .i64 (a-(x0.f0.size:Int)))<(0:Int))) (some ((-1:Int))) (if Wf.wf x0.f3 then cond (decide ((ey x0.f3 (IntKind.wrap .i64 (a-(x0.f0.size:Int))))<(0:Int))) (some ((-1:Int))) (some (ey x0.f3 (IntKind.wrap .i64 (a-(x0.f0.size:Int)))))else none)
theorem KS (x0:LRun)(a:Int):Ans (np x0 a) (fun r=>Does E 5 [.agg (LRun.t .far x0),O0 a] [OX r]):=by
 unfold np;apply OR<;>intro b
 ·exact OO (DP Tryz.f5 [.no,.b true] (AC b<|AN))
 ·refine OT (fun c => ?_);apply OR<;>intro d
  ·exact OO (DP Tryz.f5 [.no,.b false,.ret [OX (ey x0.f3 (IntKind.wrap .i64 (a-(x0.f0.size:Int))))],.b true] (AC b<|AD (vG x0.f3 (IntKind.wrap .i64 (a-(x0.f0.size:Int))) c)<|AC d<|AN))
  ·exact OO (DP Tryz.f5 [.no,.b false,.ret [OX (ey x0.f3 (IntKind.wrap .i64 (a-(x0.f0.size:Int))))],.b false] (AC b<|AD (vG x0.f3 (IntKind.wrap .i64 (a-(x0.f0.size:Int))) c)<|AC d<|AN))
noncomputable def dG (x:LRun)(n:Int):Int:=(np x n).getD (-1)
theorem yq (x:LRun)(n:Int)(h:Wf.wf x):np x n=some (dG x n):=by obtain⟨w0,a,b⟩:=h;refine Tot.getD ?_ _;unfold np;repeat' (first|exact Tot.some _|apply Tot.cond|refine Tot.ite (by assumption) ?_)
theorem iK (x0:LRun)(a:Int)(h:Wf.wf x0):Does E 5 [.agg (LRun.t .far x0),O0 a] [OX (dG x0 a)]:=by exact KS x0 a _ (yq x0 a h)
theorem Jv (x:LRun)(n:Int)(b:Wf.wf x)(f:0≤n)(j:n≤1048576)(h:0≤dG x n):dG x n≤n∧ae.sm x:=by
 have e:=yq x n b;obtain⟨w0,l,a⟩:=b;generalize dG x n=r at *;unfold np at e;obtain⟨c,e⟩:=lr e h;obtain⟨m,g⟩:=qw (n:=n) (k:=x.f0.size) f (by omega) w0 c;generalize IntKind.wrap .i64 (n-(x.f0.size:Int))=d at *;try rw[O6 a]at e
 obtain⟨a2,e⟩:=lr e h;try rw[O6 a]at e
 obtain⟨o,i⟩:=Db x.f3 d a c (by omega) a2;generalize ey x.f3 d=p at *;cases e;exact⟨by omega,⟨kj g,trivial,i⟩⟩
noncomputable def uD (x0:GSpan):Option (GSpan):=some (x0)
theorem Js (x0:GSpan):Ans (uD x0) (fun r=>Does E 24 [.agg (GSpan.t x0)] [(true,GSpan.t r)]):=by unfold uD;exact OO (DP Tryz.f24 [] AN)
def qo (x:GSpan):GSpan:=x
theorem Ip (x0:GSpan)(h:ae.sm x0):Does E 24 [.agg (GSpan.t x0)] [(true,GSpan.t (qo x0))]:=by
 skip
 exact Js x0 _ (by
  unfold uD;repeat rw[O6 (by assumption)]
  rfl)
noncomputable def sE (x0:GState):Option (GState):=some (x0)
theorem He (x0:GState):Ans (sE x0) (fun r=>Does E 45 [.agg (GState.t x0)] [(true,GState.t r)]):=by unfold sE;exact OO (DP Tryz.f45 [] AN)
def dL (x:GState):GState:=x
theorem Gt (x0:GState)(h:ae.sm x0):Does E 45 [.agg (GState.t x0)] [(true,GState.t (dL x0))]:=by
 skip
 exact He x0 _ (by
  unfold sE;repeat rw[O6 (by assumption)]
  rfl)
inductive vi where|x0 (v3:List GState)
def mF (v0 v3:List GState)(v4:Int):US:=stL 23 [(0,.one (.s .far () 4 (v0.map GState.t))),(3,.one (.s .own () 4 (v3.map GState.t))),(4,O0 v4)]
def nX (a:List GState):US:=stL 23 [(3,.one (.s .own () 4 (a.map GState.t)))]
abbrev vh:US→Exit→US→Prop:=Round E 25 (av Tryz.f25 0)
def C9 (v0 v3:List GState)(v4:Int):vi→Prop| .x0 a=>Loops E 25 (av Tryz.f25 0) (mF v0 v3 v4) (.exit 0) (nX a)
noncomputable def fz  : List GState→Nat→(List GState)→Option vi|[],i,v3=>some (.x0 v3)|hd::rest,i,v3=>if ae.sm hd then(am v3 (i:Int)).bind fun g1=>fz rest (i+1) (v3.set (i:Int).toNat (dL hd))else none
theorem C8 (v0:List GState)(rest:List GState):∀(i:Nat)(v3:List GState),(v0).drop i=rest→v0.length≤9223372036854775807→Ans (fz rest i v3) (C9 v0 v3 (i:Int)):=by
 induction rest with
 |nil =>intro i v3 a b;have hb:=aZ a;unfold fz;exact OO (OQ (show vh (mF v0 v3 (i:Int)) (.exit 0) (nX v3)from RP [O3 (v0.length:Int),.b false] (ALn v0 GState.t<|AC hb<|AN)) (by intro h;cases h))
 |cons hd rest d =>intro i v3 a b;have hb:=aT a;have e:=aU a b;have c:=aE a;have f:=aW a;unfold fz;refine OT (fun g => ?_);refine OS (fun g1 j => ?_);exact(d (i+1) (v3.set (i:Int).toNat (dL hd)) c b).mono fun y k=>by have r:vh (mF v0 v3 (i:Int)) .normal (mF v0 (v3.set (i:Int).toNat (dL hd)) (inc (i:Int))):=RP [O3 (v0.length:Int),.b true,.row (GState.t hd),.ret [(true,GState.t (dL hd))],.row (GState.t g1),.rows ((v3.set (i:Int).toNat (dL hd)).map GState.t)] (ALn v0 GState.t<|AC hb<|AR GState.t f<|AD (Gt hd g)<|AG GState.t j<|AC (p:=(v3.map GState.t).set (0+(i:Int).toNat) (au (GState.t g1) 0 [tI ((dL hd).f0),tI ((dL hd).f1),tI ((dL hd).f2),tI ((dL hd).f3)])=(v3.set (i:Int).toNat (dL hd)).map GState.t) (db (by rfl))<|AN);rw[e]at r;cases y<;>exact OP r k
noncomputable def ra (x0:List GState):Option ((List GState)):=
  if 0≤(x0.length:Int)∧(x0.length:Int)≤(x0.length:Int)∧((32:Nat):Int)*(x0.length:Int)≤281474976710656∧(x0.length:Int)≤4611686018427387904 then if x0.length≤9223372036854775807 then(fz x0 0 (List.replicate (x0.length:Int).toNat (GState.mk 0 0 0 0))).bind fun y=>match y with
   | .x0 a=>(some (a))else none else none
theorem Fc (x0:List GState):Ans (ra x0) (fun r=>Does E 25 [.one (.s .far () 4 (x0.map GState.t))] [(false,[.s .own () 4 (r.map GState.t)])]):=by
 unfold ra;refine OT (fun d => ?_);refine OT (fun b => ?_);refine OS (fun y c => ?_);replace c:=C8 x0 x0 0 (List.replicate (x0.length:Int).toNat (GState.mk 0 0 0 0)) rfl b y c;cases y with
 |x0 a =>have e:=c;exact OO (DP Tryz.f25 [O3 (x0.length:Int),.rows ((List.replicate (x0.length:Int).toNat (GState.mk 0 0 0 0)).map GState.t),.lp (.exit 0) (nX a)] (ALn x0 GState.t<|AC d<|AC (p:=List.replicate (x0.length:Int).toNat [tI 0,tI 0,tI 0,tI (0:Int)]=(List.replicate (x0.length:Int).toNat (GState.mk 0 0 0 0)).map GState.t) (py rfl)<|AL e<|AN))
def li (l:List GState):List GState:=l
theorem u4:∀(rest:List GState)(i:Nat)(v:List GState),(∀y∈rest,ae.sm y)→v.length=i+rest.length→fz rest i v=some (.x0 (v.take i++rest))
 |[],i,v,_,hv=>by unfold fz;rw[Rj (by simp at hv;omega)];simp
 |x::rest,i,v,h,hv=>by
  have a:=h x (by simp);have hi:i<v.length:=by simp at hv;omega
  unfold fz;rw[dZ,Pb hi,O5];try rw[O6 a]
  rw[Q9,u4 rest (i+1) _ (fun y b=>h y (by simp[b])) (by simp at hv ⊢;omega),B3 hi];simp[dL]
theorem Ea (x0:List GState)(h:ae.sm x0):Does E 25 [.one (.s .far () 4 (x0.map GState.t))] [(false,[.s .own () 4 ((li x0).map GState.t)])]:=by exact Fc x0 _ (by unfold ra;rw[O6 (Fh 32 (by decide) h.1 rfl),O6 (iY h),u4 x0 0 _ h.2 (by simp)];simp[li])
noncomputable def wL (x0:LRun):Option (GRun):=if ae.sm x0.f1 then if ae.sm x0.f3 then some ((GRun.mk x0.f0 (qo x0.f1) x0.f2 (li x0.f3)))else none else none
theorem KU (x0:LRun):Ans (wL x0) (fun r=>Does E 8 [.agg (LRun.t .far x0)] [(true,GRun.t .own r)]):=by unfold wL;refine OT (fun a => ?_);refine OT (fun b => ?_);exact OO (DP Tryz.f8 [.ret [(true,GSpan.t (qo x0.f1))],.ret [(false,[.s .own () 4 ((li x0.f3).map GState.t)])]] (AD (Ip x0.f1 a)<|AD (Ea x0.f3 b)<|AN))
def gU (x:LRun):GRun:=⟨x.f0,qo x.f1,x.f2,li x.f3⟩
theorem JR {x:LRun}(h:ae.sm x):ae.sm (gU x):=by obtain⟨w0,a,b⟩:=h;exact⟨w0,a,b⟩
theorem J5 (x0:LRun)(h:ae.sm x0):Does E 8 [.agg (LRun.t .far x0)] [(true,GRun.t .own (gU x0))]:=by
 obtain⟨w0,a,b⟩:=h;exact KU x0 _ (by
  unfold wL;repeat rw[O6 (by assumption)]
  rfl)
noncomputable def uB (x0 a:GSpan):Option (Bool):=cond (x0.f0 != a.f0) (some (false)) (cond (x0.f1 != a.f1) (some (false)) (some (true)))
theorem Jp (x0 b:GSpan):Ans (uB x0 b) (fun r=>Does E 33 [.agg (GSpan.t x0),.agg (GSpan.t b)] [OY r]):=by
 unfold uB;apply OR<;>intro a
 ·exact OO (DP Tryz.f33 [.b true] (AC a<|AN))
 ·apply OR<;>intro c
  ·exact OO (DP Tryz.f33 [.b false,.b true] (AC a<|AC c<|AN))
  ·exact OO (DP Tryz.f33 [.b false,.b false] (AC a<|AC c<|AN))
theorem qa (x0:GSpan)(a:GSpan)(e:x0=a)(h:ae.sm x0):Does E 33 [.agg (GSpan.t x0),.agg (GSpan.t a)] [OY (yes x0 a)]:=by
 subst e
 skip
 exact Jp x0 x0 _ (by unfold uB;simp only[PK,yes,QB,RE,Qu,Pt,Pk])
noncomputable def sC (x0 a:GState):Option (Bool):=cond (x0.f0 != a.f0) (some (false)) (cond (x0.f1 != a.f1) (some (false)) (cond (x0.f2 != a.f2) (some (false)) (cond (x0.f3 != a.f3) (some (false)) (some (true)))))
theorem G8 (x0 d:GState):Ans (sC x0 d) (fun r=>Does E 54 [.agg (GState.t x0),.agg (GState.t d)] [OY r]):=by
 unfold sC;apply OR<;>intro a
 ·exact OO (DP Tryz.f54 [.b true] (AC a<|AN))
 ·apply OR<;>intro b
  ·exact OO (DP Tryz.f54 [.b false,.b true] (AC a<|AC b<|AN))
  ·apply OR<;>intro c
   ·exact OO (DP Tryz.f54 [.b false,.b false,.b true] (AC a<|AC b<|AC c<|AN))
   ·apply OR<;>intro e
    ·exact OO (DP Tryz.f54 [.b false,.b false,.b false,.b true] (AC a<|AC b<|AC c<|AC e<|AN))
    ·exact OO (DP Tryz.f54 [.b false,.b false,.b false,.b false] (AC a<|AC b<|AC c<|AC e<|AN))
theorem xD (x0:GState)(a:GState)(e:x0=a)(h:ae.sm x0):Does E 54 [.agg (GState.t x0),.agg (GState.t a)] [OY (yes x0 a)]:=by
 subst e
 skip
 exact G8 x0 x0 _ (by unfold sC;simp only[PK,yes,QB,RE,Qu,Pt,Pk])
inductive ve where|ret (v4:Bool)|x0
def iA (v0 v1:List GState)(v5:Int):US:=stL 27 [(0,.one (.s .far () 4 (v0.map GState.t))),(1,.one (.s .far () 4 (v1.map GState.t))),(5,O0 v5)]
def mX (a:Bool):US:=stL 27 [(4,O1 a)]
def nT  : US:=stL 27 []
abbrev pL:US→Exit→US→Prop:=Round E 34 (av Tryz.f34 0)
def C2 (v0 v1:List GState)(v5:Int):ve→Prop| .ret a=>Loops E 34 (av Tryz.f34 0) (iA v0 v1 v5) .ret (mX a)| .x0=>Loops E 34 (av Tryz.f34 0) (iA v0 v1 v5) (.exit 0) (nT)
noncomputable def gB (v1:List GState):List GState→Nat→Option ve|[],i=>some (.x0)|hd::rest,i=>(am v1 (i:Int)).bind fun g1=>if hd=g1 then if ae.sm hd then cond (yes hd g1) (gB v1 rest (i+1)) (some (.ret false))else none else none
theorem C1 (v0 v1:List GState)(rest:List GState):∀(i:Nat) ,(v0).drop i=rest→v0.length≤9223372036854775807→Ans (gB v1 rest i) (C2 v0 v1 (i:Int)):=by
 induction rest with
 |nil =>intro i a b;have hb:=aZ a;unfold gB;exact OO (OQ (show pL (iA v0 v1 (i:Int)) (.exit 0) (nT)from RP [O3 (v0.length:Int),.b false] (ALn v0 GState.t<|AC hb<|AN)) (by intro h;cases h))
 |cons hd rest k =>
  intro i a b;have hb:=aT a;have l:=aU a b;have c:=aE a;have d:=aW a;unfold gB;refine OS (fun g1 e => ?_);refine OT (fun f => ?_);refine OT (fun g => ?_);apply OR<;>intro j
  ·exact(k (i+1) c b).mono fun y m=>by have r:pL (iA v0 v1 (i:Int)) .normal (iA v0 v1 (inc (i:Int))):=RP [O3 (v0.length:Int),.b true,.row (GState.t hd),.row (GState.t g1),rT] (ALn v0 GState.t<|AC hb<|AR GState.t d<|AR GState.t e<|AD (OW (xD hd g1 f g) j)<|AN);rw[l]at r;cases y<;>exact OP r m
  ·exact OO (OQ (show pL (iA v0 v1 (i:Int)) .ret (mX false)from RP [O3 (v0.length:Int),.b true,.row (GState.t hd),.row (GState.t g1),rF] (ALn v0 GState.t<|AC hb<|AR GState.t d<|AR GState.t e<|AD (OW (xD hd g1 f g) j)<|AN)) (by intro h;cases h))
noncomputable def qW (x0 b:List GState):Option (Bool):=
  cond ((x0.length:Int) != (b.length:Int))
   (some (false))
   (if x0.length≤9223372036854775807 then(gB b x0 0).bind fun y=>match y with
    | .ret a=>(some (a))
    | .x0=>(some (true))else none)
theorem E5 (x0 a:List GState):Ans (qW x0 a) (fun r=>Does E 34 [.one (.s .far () 4 (x0.map GState.t)),.one (.s .far () 4 (a.map GState.t))] [OY r]):=by
 unfold qW;apply OR<;>intro d
 ·exact OO (DP Tryz.f34 [O3 (x0.length:Int),O3 (a.length:Int),.b true] (ALn x0 GState.t<|ALn a GState.t<|AC d<|AN))
 ·refine OT (fun e => ?_);refine OS (fun y c => ?_);replace c:=C1 x0 a x0 0 rfl e y c;cases y with
  |ret b =>have f:=c;exact OO (DP Tryz.f34 [O3 (x0.length:Int),O3 (a.length:Int),.b false,.lp .ret (mX b)] (ALn x0 GState.t<|ALn a GState.t<|AC d<|AL f<|AN))
  |x0 =>have f:=c;exact OO (DP Tryz.f34 [O3 (x0.length:Int),O3 (a.length:Int),.b false,.lp (.exit 0) (nT)] (ALn x0 GState.t<|ALn a GState.t<|AC d<|AL f<|AN))
theorem u5 (l:List GState):∀(rest:List GState)(i:Nat),l.drop i=rest→(∀y∈rest,ae.sm y)→gB l rest i=some .x0
 |[],i,_,_=>rfl
 |x::rest,i,a,h=>by have b:=h x (by simp);unfold gB;rw[aW a,O5];simp only[b,PK,yes,QB,RE,Qu,Pt,Pk];exact u5 l rest (i+1) (aE a) (fun y c=>h y (by simp[c]))
theorem vF (x0:List GState)(a:List GState)(e:x0=a)(h:ae.sm x0):Does E 34 [.one (.s .far () 4 (x0.map GState.t)),.one (.s .far () 4 (a.map GState.t))] [OY (yes x0 a)]:=by subst e;exact E5 x0 x0 _ (by unfold qW;rw[O6 (iY h),u5 x0 x0 0 rfl h.2];simp[yes])
noncomputable def wH (x0 a:GRun):Option (Bool):=cond (!(x0.f0.toList==a.f0.toList)) (some (false)) (if x0.f1=a.f1 then if ae.sm x0.f1 then cond (yes x0.f1 a.f1) (cond (x0.f2 != a.f2) (some (false)) (if x0.f3=a.f3 then if ae.sm x0.f3 then cond (yes x0.f3 a.f3) (some (true)) (some (false))else none else none)) (some (false))else none else none)
theorem KQ (x0 a:GRun):Ans (wH x0 a) (fun r=>Does E 10 [.agg (GRun.t .far x0),.agg (GRun.t .far a)] [OY r]):=by
 unfold wH;apply OR<;>intro b
 ·exact OO (DP Tryz.f10 [.b true] (AC b<|AN))
 ·refine OT (fun c => ?_);refine OT (fun d => ?_);apply OR<;>intro e
  ·apply OR<;>intro f
   ·exact OO (DP Tryz.f10 [.b false,rT,.b true] (AC b<|AD (OW (qa x0.f1 a.f1 c d) e)<|AC f<|AN))
   ·refine OT (fun g => ?_);refine OT (fun h => ?_);apply OR<;>intro i
    ·exact OO (DP Tryz.f10 [.b false,rT,.b false,rT] (AC b<|AD (OW (qa x0.f1 a.f1 c d) e)<|AC f<|AD (OW (vF x0.f3 a.f3 g h) i)<|AN))
    ·exact OO (DP Tryz.f10 [.b false,rT,.b false,rF] (AC b<|AD (OW (qa x0.f1 a.f1 c d) e)<|AC f<|AD (OW (vF x0.f3 a.f3 g h) i)<|AN))
  ·exact OO (DP Tryz.f10 [.b false,rF] (AC b<|AD (OW (qa x0.f1 a.f1 c d) e)<|AN))
theorem cR (x0:GRun)(a:GRun)(e:x0=a)(h:ae.sm x0):Does E 10 [.agg (GRun.t .far x0),.agg (GRun.t .far a)] [OY (yes x0 a)]:=by subst e;obtain⟨w0,b,c⟩:=h;exact KQ x0 x0 _ (by unfold wH;simp only[b,c,PK,yes,QB,RE,Qu,Pt,Pk])
end
end Go.Proofs.YtjlkcjlcmaoccaaGreatDoor.Am
