/- What the functions that measure, copy and compare boards do. -/
import Derived.Test.YtoanlngmbcnglaaGreatDoorPlans
namespace Go.Proofs.YtoanlngmbcnglaaGreatDoor.Am
open Go
set_option linter.unusedVariables false
set_option linter.unusedSimpArgs false
section
open Go.Proofs Classical
set_option maxRecDepth 100000
noncomputable def jt (x0:GSession)(a:Int):Option (Int):=cond (decide ((IntKind.wrap .i64 (a-(x0.f2.size:Int)))<(0:Int))) (some ((-1:Int))) (some (IntKind.wrap .i64 (a-(x0.f2.size:Int))))
theorem GL (x0:GSession)(a:Int):Ans (jt x0 a) (fun r=>Does E 31 [.agg (GSession.t x0),T5 a] [T2 r]):=by
 unfold jt;apply TW<;>intro b
 ·exact TT (DP Tryz.f31 [.no,.b true] (AC b<|AN))
 ·exact TT (DP Tryz.f31 [.no,.b false] (AC b<|AN))
noncomputable def cT (x:GSession)(n:Int):Int:=(jt x n).getD (-1)
theorem uT (x:GSession)(n:Int)(h:Wf.wf x):jt x n=some (cT x n):=by have a:Wf.wf x.f2:=h;refine Tot.getD ?_ _;unfold jt;repeat' (first|exact Tot.some _|apply Tot.cond|refine Tot.ite (by assumption) ?_)
theorem xJ (x0:GSession)(a:Int)(h:Wf.wf x0):Does E 31 [.agg (GSession.t x0),T5 a] [T2 (cT x0 a)]:=by exact GL x0 a _ (uT x0 a h)
theorem EB (x:GSession)(n:Int)(a:Wf.wf x)(b:0≤n)(g:n≤1048576)(h:0≤cT x n):cT x n≤n∧ac.sm x:=by have e:=uT x n a;have c:Wf.wf x.f2:=a;generalize cT x n=r at *;unfold jt at e;obtain⟨d,e⟩:=fG e h;obtain⟨i,f⟩:=m4 (n:=n) (k:=x.f2.size) b (by omega) c d;generalize IntKind.wrap .i64 (n-(x.f2.size:Int))=j at *;cases e;exact⟨by omega,gi f⟩
inductive uJ where|ret (v4:Int)|x0 (v1:Int)
def hJ (v0:List GSession)(v1 v5:Int):US:=stL 27 [(0,.one (.s .far () 3 (v0.map GSession.t))),(1,T5 v1),(5,T5 v5)]
def md (a:Int):US:=stL 27 [(4,T5 a)]
def nh (a:Int):US:=stL 27 [(1,T5 a)]
abbrev pI:US→Exit→US→Prop:=Round E 9 (am Tryz.f9 0)
def Df (v0:List GSession)(v1 v5:Int):uJ→Prop| .ret a=>Loops E 9 (am Tryz.f9 0) (hJ v0 v1 v5) .ret (md a)| .x0 b=>Loops E 9 (am Tryz.f9 0) (hJ v0 v1 v5) (.exit 0) (nh b)
noncomputable def dE  : List GSession→Nat→Int→Option uJ|[],i,v1=>some (.x0 v1)|hd::rest,i,v1=>if Wf.wf hd then cond (decide ((cT hd v1)<(0:Int))) (some (.ret (-1:Int))) (dE rest (i+1) (cT hd v1))else none
theorem De (v0:List GSession)(rest:List GSession):∀(i:Nat)(v1:Int),(v0).drop i=rest→v0.length≤9223372036854775807→Ans (dE rest i v1) (Df v0 v1 (i:Int)):=by
 induction rest with
 |nil =>intro i v1 a b;have hb:=aI a;unfold dE;exact TT (TV (show pI (hJ v0 v1 (i:Int)) (.exit 0) (nh v1)from RP [T8 (v0.length:Int),.b false] (ALn v0 GSession.t<|AC hb<|AN)) (by intro h;cases h))
 |cons hd rest g =>
  intro i v1 a b;have hb:=aC a;have j:=aD a b;have c:=aq a;have d:=aB a;unfold dE;refine TY (fun e => ?_);apply TW<;>intro f
  ·exact TT (TV (show pI (hJ v0 v1 (i:Int)) .ret (md (-1:Int))from RP [T8 (v0.length:Int),.b true,.row (GSession.t hd),.ret [T2 (cT hd v1)],.b true] (ALn v0 GSession.t<|AC hb<|AR GSession.t d<|AD (xJ hd v1 e)<|AC f<|AN)) (by intro h;cases h))
  ·exact(g (i+1) (cT hd v1) c b).mono fun y k=>by have r:pI (hJ v0 v1 (i:Int)) .normal (hJ v0 (cT hd v1) (inc (i:Int))):=RP [T8 (v0.length:Int),.b true,.row (GSession.t hd),.ret [T2 (cT hd v1)],.b false] (ALn v0 GSession.t<|AC hb<|AR GSession.t d<|AD (xJ hd v1 e)<|AC f<|AN);rw[j]at r;cases y<;>exact TU r k
noncomputable def iR (x0:List GSession)(c:Int):Option (Int):=
  cond (decide ((IntKind.wrap .i64 (c-(x0.length:Int)))<(0:Int)))
   (some ((-1:Int)))
   (if x0.length≤9223372036854775807 then(dE x0 0 (IntKind.wrap .i64 (c-(x0.length:Int)))).bind fun y=>match y with
    | .ret a=>(some (a))
    | .x0 b=>(some (b))else none)
theorem Eu (x0:List GSession)(d:Int):Ans (iR x0 d) (fun r=>Does E 9 [.one (.s .far () 3 (x0.map GSession.t)),T5 d] [T2 r]):=by
 unfold iR;apply TW<;>intro e
 ·exact TT (DP Tryz.f9 [T8 (x0.length:Int),.no,.b true] (ALn x0 GSession.t<|AC e<|AN))
 ·refine TY (fun f => ?_);refine TX (fun y c => ?_);replace c:=De x0 x0 0 (IntKind.wrap .i64 (d-(x0.length:Int))) rfl f y c;cases y with
  |ret a =>have g:=c;exact TT (DP Tryz.f9 [T8 (x0.length:Int),.no,.b false,.lp .ret (md a)] (ALn x0 GSession.t<|AC e<|AL g<|AN))
  |x0 b =>have g:=c;exact TT (DP Tryz.f9 [T8 (x0.length:Int),.no,.b false,.lp (.exit 0) (nh b)] (ALn x0 GSession.t<|AC e<|AL g<|AN))
noncomputable def aG (x:List GSession)(n:Int):Int:=(iR x n).getD (-1)
theorem uS:∀(rest:List GSession)(i:Nat)(n:Int),(∀y∈rest,Wf.wf y)→Tot (dE rest i n)
 |[],i,n,_=>Tot.some _
 |x::rest,i,n,h=>by
  have c:=h x (by simp);have a:=fun i n=>uS rest i n fun y b=>h y (by simp[b])
  unfold dE;repeat' (first|exact Tot.some _|exact a _ _|apply Tot.cond|refine Tot.ite (by assumption) ?_)
theorem uj (x:List GSession)(n:Int)(h:Wf.wf x):iR x n=some (aG x n):=by refine Tot.getD ?_ _;unfold iR;refine Tot.cond (Tot.some _) ?_;refine Tot.ite h.1 (Tot.bind (uS x 0 _ h.2) fun y a => ?_);cases y<;>exact Tot.some _
theorem mr (x0:List GSession)(a:Int)(h:Wf.wf x0):Does E 9 [.one (.s .far () 3 (x0.map GSession.t)),T5 a] [T2 (aG x0 a)]:=by exact Eu x0 a _ (uj x0 a h)
theorem tR:∀(rest:List GSession)(i:Nat)(n:Int),(∀y∈rest,Wf.wf y)→0≤n→n≤1048576→∀y,dE rest i n=some y →
  (∃m,y = .x0 m∧0≤m∧m≤n∧∀z∈rest,ac.sm z)∨∃m,y = .ret m∧m<0
 |[],i,n,_,a,f,y,e=>by cases e;exact .inl ⟨n,rfl,a,Ve _,fun z hz=>by cases hz⟩
 |x::rest,i,n,h,a,f,y,e=>by
  have d:=h x (by simp);unfold dE at e;try rw[Ub d]at e
  by_cases q:cT x n<0
  ·rw[Uj q,Uo]at e;cases e;exact .inr ⟨_,rfl,by omega⟩
  ·rw[Uk q,Uu]at e;try rw[Ub d]at e
   obtain⟨b,c⟩:=EB x n d a f (by omega);rcases tR rest _ _ (fun y j=>h y (by simp[j])) (by omega) (by omega) y e with⟨m,g1,k,g3,g4⟩|g
   ·refine .inl ⟨m,g1,k,by omega,fun z hz => ?_⟩;rcases UE.1 hz with rfl|hz
    ·exact c
    ·exact g4 z hz
   ·exact .inr g
theorem Di (x:List GSession)(n:Int)(a:Wf.wf x)(d:0≤n)(f:n≤1048576)(h:0≤aG x n):aG x n≤n∧ac.sm x:=by
 have e:=uj x n a;generalize aG x n=r at *;unfold iR at e;obtain⟨b,e⟩:=fG e h;obtain⟨l,i⟩:=m4 (n:=n) (k:=x.length) d f a.1 b;rw[Ub a.1,Uc]at e;obtain⟨y,j,c⟩:=e;rcases tR x 0 _ a.2 b (by omega) y j with⟨m,rfl,o,g3,g4⟩|⟨m,rfl,g⟩
 ·cases c;exact⟨by omega,gi i,g4⟩
 ·cases c;omega
inductive wh where|ret (v4:Int)|x0 (v1:Int)
def iS (v0:List ByteArray)(v1 v5:Int):US:=stL 28 [(0,.one (.s .far () 1 (v0.map etS))),(1,T5 v1),(5,T5 v5)]
def ni (a:Int):US:=stL 28 [(4,T5 a)]
def oo (a:Int):US:=stL 28 [(1,T5 a)]
abbrev qw:US→Exit→US→Prop:=Round E 120 (am Tryz.f120 0)
def Ex (v0:List ByteArray)(v1 v5:Int):wh→Prop| .ret a=>Loops E 120 (am Tryz.f120 0) (iS v0 v1 v5) .ret (ni a)| .x0 b=>Loops E 120 (am Tryz.f120 0) (iS v0 v1 v5) (.exit 0) (oo b)
noncomputable def d8  : List ByteArray→Nat→Int→Option wh|[],i,v1=>some (.x0 v1)|hd::rest,i,v1=>cond (decide ((IntKind.wrap .i64 (v1-(hd.size:Int)))<(0:Int))) (some (.ret (-1:Int))) (d8 rest (i+1) (IntKind.wrap .i64 (v1-(hd.size:Int))))
theorem Ew (v0:List ByteArray)(rest:List ByteArray):∀(i:Nat)(v1:Int),(v0).drop i=rest→v0.length≤9223372036854775807→Ans (d8 rest i v1) (Ex v0 v1 (i:Int)):=by
 induction rest with
 |nil =>intro i v1 a b;have hb:=aI a;unfold d8;exact TT (TV (show qw (iS v0 v1 (i:Int)) (.exit 0) (oo v1)from RP [T8 (v0.length:Int),.b false] (ALn v0 etS<|AC hb<|AN)) (by intro h;cases h))
 |cons hd rest f =>
  intro i v1 a b;have hb:=aC a;have g:=aD a b;have c:=aq a;have d:=aB a;unfold d8;apply TW<;>intro e
  ·exact TT (TV (show qw (iS v0 v1 (i:Int)) .ret (ni (-1:Int))from RP [T8 (v0.length:Int),.b true,.row (etS hd),.no,.b true] (ALn v0 etS<|AC hb<|AR etS d<|AC e<|AN)) (by intro h;cases h))
  ·exact(f (i+1) (IntKind.wrap .i64 (v1-(hd.size:Int))) c b).mono fun y j=>by have r:qw (iS v0 v1 (i:Int)) .normal (iS v0 (IntKind.wrap .i64 (v1-(hd.size:Int))) (inc (i:Int))):=RP [T8 (v0.length:Int),.b true,.row (etS hd),.no,.b false] (ALn v0 etS<|AC hb<|AR etS d<|AC e<|AN);rw[g]at r;cases y<;>exact TU r j
noncomputable def ju (x0:List ByteArray)(c:Int):Option (Int):=
  cond (decide ((IntKind.wrap .i64 (c-(x0.length:Int)))<(0:Int)))
   (some ((-1:Int)))
   (if x0.length≤9223372036854775807 then(d8 x0 0 (IntKind.wrap .i64 (c-(x0.length:Int)))).bind fun y=>match y with
    | .ret a=>(some (a))
    | .x0 b=>(some (b))else none)
theorem GM (x0:List ByteArray)(d:Int):Ans (ju x0 d) (fun r=>Does E 120 [.one (.s .far () 1 (x0.map etS)),T5 d] [T2 r]):=by
 unfold ju;apply TW<;>intro e
 ·exact TT (DP Tryz.f120 [T8 (x0.length:Int),.no,.b true] (ALn x0 etS<|AC e<|AN))
 ·refine TY (fun f => ?_);refine TX (fun y c => ?_);replace c:=Ew x0 x0 0 (IntKind.wrap .i64 (d-(x0.length:Int))) rfl f y c;cases y with
  |ret a =>have g:=c;exact TT (DP Tryz.f120 [T8 (x0.length:Int),.no,.b false,.lp .ret (ni a)] (ALn x0 etS<|AC e<|AL g<|AN))
  |x0 b =>have g:=c;exact TT (DP Tryz.f120 [T8 (x0.length:Int),.no,.b false,.lp (.exit 0) (oo b)] (ALn x0 etS<|AC e<|AL g<|AN))
noncomputable def dW (x:List ByteArray)(n:Int):Int:=(ju x n).getD (-1)
theorem wA:∀(rest:List ByteArray)(i:Nat)(n:Int),(∀y∈rest,Wf.wf y)→Tot (d8 rest i n)
 |[],i,n,_=>Tot.some _
 |x::rest,i,n,h=>by
  have c:=h x (by simp);have a:=fun i n=>wA rest i n fun y b=>h y (by simp[b])
  unfold d8;repeat' (first|exact Tot.some _|exact a _ _|apply Tot.cond|refine Tot.ite (by assumption) ?_)
theorem uU (x:List ByteArray)(n:Int)(h:Wf.wf x):ju x n=some (dW x n):=by refine Tot.getD ?_ _;unfold ju;refine Tot.cond (Tot.some _) ?_;refine Tot.ite h.1 (Tot.bind (wA x 0 _ h.2) fun y a => ?_);cases y<;>exact Tot.some _
theorem xK (x0:List ByteArray)(a:Int)(h:Wf.wf x0):Does E 120 [.one (.s .far () 1 (x0.map etS)),T5 a] [T2 (dW x0 a)]:=by exact GM x0 a _ (uU x0 a h)
theorem uM:∀(rest:List ByteArray)(i:Nat)(n:Int),(∀y∈rest,Wf.wf y)→0≤n→n≤1048576→∀y,d8 rest i n=some y →
  (∃m,y = .x0 m∧0≤m∧m≤n∧∀z∈rest,ac.sm z)∨∃m,y = .ret m∧m<0
 |[],i,n,_,a,f,y,e=>by cases e;exact .inl ⟨n,rfl,a,Ve _,fun z hz=>by cases hz⟩
 |x::rest,i,n,h,a,f,y,e=>by
  have d:=h x (by simp);unfold d8 at e;try rw[Ub d]at e
  by_cases q:IntKind.wrap .i64 (n-(x.size:Int))<0
  ·rw[Uj q,Uo]at e;cases e;exact .inr ⟨_,rfl,by omega⟩
  ·rw[Uk q,Uu]at e;try rw[Ub d]at e
   obtain⟨b,c⟩:=m4 a f d (by omega);rcases uM rest _ _ (fun y j=>h y (by simp[j])) (by omega) (by omega) y e with⟨m,g1,k,g3,g4⟩|g
   ·refine .inl ⟨m,g1,k,by omega,fun z hz => ?_⟩;rcases UE.1 hz with rfl|hz
    ·exact gi c
    ·exact g4 z hz
   ·exact .inr g
theorem EC (x:List ByteArray)(n:Int)(a:Wf.wf x)(d:0≤n)(f:n≤1048576)(h:0≤dW x n):dW x n≤n∧ac.sm x:=by
 have e:=uU x n a;generalize dW x n=r at *;unfold ju at e;obtain⟨b,e⟩:=fG e h;obtain⟨l,i⟩:=m4 (n:=n) (k:=x.length) d f a.1 b;rw[Ub a.1,Uc]at e;obtain⟨y,j,c⟩:=e;rcases uM x 0 _ a.2 b (by omega) y j with⟨m,rfl,o,g3,g4⟩|⟨m,rfl,g⟩
 ·cases c;exact⟨by omega,gi i,g4⟩
 ·cases c;omega
noncomputable def mJ (x0:GTask)(a:Int):Option (Int):=cond (decide ((IntKind.wrap .i64 (a-(x0.f0.size:Int)))<(0:Int))) (some ((-1:Int))) (cond (decide ((IntKind.wrap .i64 ((IntKind.wrap .i64 (a-(x0.f0.size:Int)))-(x0.f1.size:Int)))<(0:Int))) (some ((-1:Int))) (if Wf.wf x0.f4 then cond (decide ((dW x0.f4 (IntKind.wrap .i64 ((IntKind.wrap .i64 (a-(x0.f0.size:Int)))-(x0.f1.size:Int))))<(0:Int))) (some ((-1:Int))) (some (dW x0.f4 (IntKind.wrap .i64 ((IntKind.wrap .i64 (a-(x0.f0.size:Int)))-(x0.f1.size:Int)))))else none))
theorem NT (x0:GTask)(a:Int):Ans (mJ x0 a) (fun r=>Does E 105 [.agg (GTask.t .far x0),T5 a] [T2 r]):=by
 unfold mJ;apply TW<;>intro b
 ·exact TT (DP Tryz.f105 [.no,.b true] (AC b<|AN))
 ·apply TW<;>intro c
  ·exact TT (DP Tryz.f105 [.no,.b false,.no,.b true] (AC b<|AC c<|AN))
  ·refine TY (fun d => ?_);apply TW<;>intro e
   ·exact TT (DP Tryz.f105 [.no,.b false,.no,.b false,.ret [T2 (dW x0.f4 (IntKind.wrap .i64 ((IntKind.wrap .i64 (a-(x0.f0.size:Int)))-(x0.f1.size:Int))))],.b true] (AC b<|AC c<|AD (xK x0.f4 (IntKind.wrap .i64 ((IntKind.wrap .i64 (a-(x0.f0.size:Int)))-(x0.f1.size:Int))) d)<|AC e<|AN))
   ·exact TT (DP Tryz.f105 [.no,.b false,.no,.b false,.ret [T2 (dW x0.f4 (IntKind.wrap .i64 ((IntKind.wrap .i64 (a-(x0.f0.size:Int)))-(x0.f1.size:Int))))],.b false] (AC b<|AC c<|AD (xK x0.f4 (IntKind.wrap .i64 ((IntKind.wrap .i64 (a-(x0.f0.size:Int)))-(x0.f1.size:Int))) d)<|AC e<|AN))
noncomputable def eU (x:GTask)(n:Int):Int:=(mJ x n).getD (-1)
theorem Aq (x:GTask)(n:Int)(h:Wf.wf x):mJ x n=some (eU x n):=by obtain⟨w0,a,b⟩:=h;refine Tot.getD ?_ _;unfold mJ;repeat' (first|exact Tot.some _|apply Tot.cond|refine Tot.ite (by assumption) ?_)
theorem Cy (x0:GTask)(a:Int)(h:Wf.wf x0):Does E 105 [.agg (GTask.t .far x0),T5 a] [T2 (eU x0 a)]:=by exact NT x0 a _ (Aq x0 a h)
theorem LC (x:GTask)(n:Int)(b:Wf.wf x)(g:0≤n)(o:n≤1048576)(h:0≤eU x n):eU x n≤n∧ac.sm x:=by
 have e:=Aq x n b;obtain⟨w0,i,a⟩:=b;generalize eU x n=r at *;unfold mJ at e;obtain⟨c,e⟩:=fG e h;obtain⟨p,j⟩:=m4 (n:=n) (k:=x.f0.size) g (by omega) w0 c;generalize IntKind.wrap .i64 (n-(x.f0.size:Int))=d at *;obtain⟨a2,e⟩:=fG e h;obtain⟨q,l⟩:=m4 (n:=d) (k:=x.f1.size) c (by omega) i a2;generalize IntKind.wrap .i64 (d-(x.f1.size:Int))=f at *;try rw[Ub a]at e
 obtain⟨a3,e⟩:=fG e h;try rw[Ub a]at e
 obtain⟨s,m⟩:=EC x.f4 f a a2 (by omega) a3;generalize dW x.f4 f=t at *;cases e;exact⟨by omega,⟨gi j,gi l,m⟩⟩
inductive zI where|ret (v4:Int)|x0 (v1:Int)
def kk (q0:Kd)(v0:List GTask)(v1 v5:Int):US:=stL 27 [(0,.one (.s .far () 5 (v0.map (GTask.t q0)))),(1,T5 v1),(5,T5 v5)]
def pJ (q0:Kd)(a:Int):US:=stL 27 [(4,T5 a)]
def qx (q0:Kd)(a:Int):US:=stL 27 [(1,T5 a)]
abbrev tP:US→Exit→US→Prop:=Round E 82 (am Tryz.f82 0)
def Jf {q0:Kd}(v0:List GTask)(v1 v5:Int):zI→Prop| .ret a=>Loops E 82 (am Tryz.f82 0) (kk q0 v0 v1 v5) .ret (pJ q0 a)| .x0 b=>Loops E 82 (am Tryz.f82 0) (kk q0 v0 v1 v5) (.exit 0) (qx q0 b)
noncomputable def fA  : List GTask→Nat→Int→Option zI|[],i,v1=>some (.x0 v1)|hd::rest,i,v1=>if Wf.wf hd then cond (decide ((eU hd v1)<(0:Int))) (some (.ret (-1:Int))) (fA rest (i+1) (eU hd v1))else none
theorem Je {q0:Kd}(v0:List GTask)(rest:List GTask):∀(i:Nat)(v1:Int),(v0).drop i=rest→v0.length≤9223372036854775807→Ans (fA rest i v1) (Jf (q0:=q0) v0 v1 (i:Int)):=by
 induction rest with
 |nil =>intro i v1 a b;have hb:=aI a;unfold fA;exact TT (TV (show tP (kk q0 v0 v1 (i:Int)) (.exit 0) (qx q0 v1)from RP [T8 (v0.length:Int),.b false] (ALn v0 (GTask.t q0)<|AC hb<|AN)) (by intro h;cases h))
 |cons hd rest g =>
  intro i v1 a b;have hb:=aC a;have j:=aD a b;have c:=aq a;have d:=aB a;unfold fA;refine TY (fun e => ?_);apply TW<;>intro f
  ·exact TT (TV (show tP (kk q0 v0 v1 (i:Int)) .ret (pJ q0 (-1:Int))from RP [T8 (v0.length:Int),.b true,.row ((GTask.t q0) hd),.ret [T2 (eU hd v1)],.b true] (ALn v0 (GTask.t q0)<|AC hb<|AR (GTask.t q0) d<|AD (Cy hd v1 e)<|AC f<|AN)) (by intro h;cases h))
  ·exact(g (i+1) (eU hd v1) c b).mono fun y k=>by have r:tP (kk q0 v0 v1 (i:Int)) .normal (kk q0 v0 (eU hd v1) (inc (i:Int))):=RP [T8 (v0.length:Int),.b true,.row ((GTask.t q0) hd),.ret [T2 (eU hd v1)],.b false] (ALn v0 (GTask.t q0)<|AC hb<|AR (GTask.t q0) d<|AD (Cy hd v1 e)<|AC f<|AN);rw[j]at r;cases y<;>exact TU r k
noncomputable def lm (x0:List GTask)(c:Int):Option (Int):=
  cond (decide ((IntKind.wrap .i64 (c-(x0.length:Int)))<(0:Int)))
   (some ((-1:Int)))
   (if x0.length≤9223372036854775807 then(fA x0 0 (IntKind.wrap .i64 (c-(x0.length:Int)))).bind fun y=>match y with
    | .ret a=>(some (a))
    | .x0 b=>(some (b))else none)
theorem Lt {q0:Kd}(x0:List GTask)(d:Int):Ans (lm x0 d) (fun r=>Does E 82 [.one (.s .far () 5 (x0.map (GTask.t q0))),T5 d] [T2 r]):=by
 unfold lm;apply TW<;>intro e
 ·exact TT (DP Tryz.f82 [T8 (x0.length:Int),.no,.b true] (ALn x0 (GTask.t q0)<|AC e<|AN))
 ·refine TY (fun f => ?_);refine TX (fun y c => ?_);replace c:=Je (q0:=q0) x0 x0 0 (IntKind.wrap .i64 (d-(x0.length:Int))) rfl f y c;cases y with
  |ret a =>have g:=c;exact TT (DP Tryz.f82 [T8 (x0.length:Int),.no,.b false,.lp .ret (pJ q0 a)] (ALn x0 (GTask.t q0)<|AC e<|AL g<|AN))
  |x0 b =>have g:=c;exact TT (DP Tryz.f82 [T8 (x0.length:Int),.no,.b false,.lp (.exit 0) (qx q0 b)] (ALn x0 (GTask.t q0)<|AC e<|AL g<|AN))
noncomputable def dX (x:List GTask)(n:Int):Int:=(lm x n).getD (-1)
theorem An:∀(rest:List GTask)(i:Nat)(n:Int),(∀y∈rest,Wf.wf y)→Tot (fA rest i n)
 |[],i,n,_=>Tot.some _
 |x::rest,i,n,h=>by
  have c:=h x (by simp);have a:=fun i n=>An rest i n fun y b=>h y (by simp[b])
  unfold fA;repeat' (first|exact Tot.some _|exact a _ _|apply Tot.cond|refine Tot.ite (by assumption) ?_)
theorem yw (x:List GTask)(n:Int)(h:Wf.wf x):lm x n=some (dX x n):=by refine Tot.getD ?_ _;unfold lm;refine Tot.cond (Tot.some _) ?_;refine Tot.ite h.1 (Tot.bind (An x 0 _ h.2) fun y a => ?_);cases y<;>exact Tot.some _
theorem AP {q0:Kd}(x0:List GTask)(a:Int)(h:Wf.wf x0):Does E 82 [.one (.s .far () 5 (x0.map (GTask.t q0))),T5 a] [T2 (dX x0 a)]:=by exact Lt x0 a _ (yw x0 a h)
theorem ya:∀(rest:List GTask)(i:Nat)(n:Int),(∀y∈rest,Wf.wf y)→0≤n→n≤1048576→∀y,fA rest i n=some y →
  (∃m,y = .x0 m∧0≤m∧m≤n∧∀z∈rest,ac.sm z)∨∃m,y = .ret m∧m<0
 |[],i,n,_,a,f,y,e=>by cases e;exact .inl ⟨n,rfl,a,Ve _,fun z hz=>by cases hz⟩
 |x::rest,i,n,h,a,f,y,e=>by
  have d:=h x (by simp);unfold fA at e;try rw[Ub d]at e
  by_cases q:eU x n<0
  ·rw[Uj q,Uo]at e;cases e;exact .inr ⟨_,rfl,by omega⟩
  ·rw[Uk q,Uu]at e;try rw[Ub d]at e
   obtain⟨b,c⟩:=LC x n d a f (by omega);rcases ya rest _ _ (fun y j=>h y (by simp[j])) (by omega) (by omega) y e with⟨m,g1,k,g3,g4⟩|g
   ·refine .inl ⟨m,g1,k,by omega,fun z hz => ?_⟩;rcases UE.1 hz with rfl|hz
    ·exact c
    ·exact g4 z hz
   ·exact .inr g
theorem Jn (x:List GTask)(n:Int)(a:Wf.wf x)(d:0≤n)(f:n≤1048576)(h:0≤dX x n):dX x n≤n∧ac.sm x:=by
 have e:=yw x n a;generalize dX x n=r at *;unfold lm at e;obtain⟨b,e⟩:=fG e h;obtain⟨l,i⟩:=m4 (n:=n) (k:=x.length) d f a.1 b;rw[Ub a.1,Uc]at e;obtain⟨y,j,c⟩:=e;rcases ya x 0 _ a.2 b (by omega) y j with⟨m,rfl,o,g3,g4⟩|⟨m,rfl,g⟩
 ·cases c;exact⟨by omega,gi i,g4⟩
 ·cases c;omega
noncomputable def oK (x0:LDag)(a:Int):Option (Int):=cond (decide ((IntKind.wrap .i64 (a-(x0.f0.size:Int)))<(0:Int))) (some ((-1:Int))) (cond (decide ((IntKind.wrap .i64 ((IntKind.wrap .i64 (a-(x0.f0.size:Int)))-(x0.f1.size:Int)))<(0:Int))) (some ((-1:Int))) (if Wf.wf x0.f5 then cond (decide ((dX x0.f5 (IntKind.wrap .i64 ((IntKind.wrap .i64 (a-(x0.f0.size:Int)))-(x0.f1.size:Int))))<(0:Int))) (some ((-1:Int))) (some (dX x0.f5 (IntKind.wrap .i64 ((IntKind.wrap .i64 (a-(x0.f0.size:Int)))-(x0.f1.size:Int)))))else none))
theorem Py {q0:Kd}(x0:LDag)(a:Int):Ans (oK x0 a) (fun r=>Does E 54 [.agg (LDag.t .far q0 x0),T5 a] [T2 r]):=by
 unfold oK;apply TW<;>intro b
 ·exact TT (DP Tryz.f54 [.no,.b true] (AC b<|AN))
 ·apply TW<;>intro c
  ·exact TT (DP Tryz.f54 [.no,.b false,.no,.b true] (AC b<|AC c<|AN))
  ·refine TY (fun d => ?_);apply TW<;>intro e
   ·exact TT (DP Tryz.f54 [.no,.b false,.no,.b false,.ret [T2 (dX x0.f5 (IntKind.wrap .i64 ((IntKind.wrap .i64 (a-(x0.f0.size:Int)))-(x0.f1.size:Int))))],.b true] (AC b<|AC c<|AV (ψ:=fun k=>E.C k 82 [.one (.s .far () 5 (x0.f5.map (GTask.t q0))),T5 (IntKind.wrap .i64 ((IntKind.wrap .i64 (a-(x0.f0.size:Int)))-(x0.f1.size:Int)))]=some [T2 (dX x0.f5 (IntKind.wrap .i64 ((IntKind.wrap .i64 (a-(x0.f0.size:Int)))-(x0.f1.size:Int))))]) (AP x0.f5 (IntKind.wrap .i64 ((IntKind.wrap .i64 (a-(x0.f0.size:Int)))-(x0.f1.size:Int))) d)<|AC e<|AN))
   ·exact TT (DP Tryz.f54 [.no,.b false,.no,.b false,.ret [T2 (dX x0.f5 (IntKind.wrap .i64 ((IntKind.wrap .i64 (a-(x0.f0.size:Int)))-(x0.f1.size:Int))))],.b false] (AC b<|AC c<|AV (ψ:=fun k=>E.C k 82 [.one (.s .far () 5 (x0.f5.map (GTask.t q0))),T5 (IntKind.wrap .i64 ((IntKind.wrap .i64 (a-(x0.f0.size:Int)))-(x0.f1.size:Int)))]=some [T2 (dX x0.f5 (IntKind.wrap .i64 ((IntKind.wrap .i64 (a-(x0.f0.size:Int)))-(x0.f1.size:Int))))]) (AP x0.f5 (IntKind.wrap .i64 ((IntKind.wrap .i64 (a-(x0.f0.size:Int)))-(x0.f1.size:Int))) d)<|AC e<|AN))
noncomputable def fO (x:LDag)(n:Int):Int:=(oK x n).getD (-1)
theorem BK (x:LDag)(n:Int)(h:Wf.wf x):oK x n=some (fO x n):=by obtain⟨w0,a,b⟩:=h;refine Tot.getD ?_ _;unfold oK;repeat' (first|exact Tot.some _|apply Tot.cond|refine Tot.ite (by assumption) ?_)
theorem FD {q0:Kd}(x0:LDag)(a:Int)(h:Wf.wf x0):Does E 54 [.agg (LDag.t .far q0 x0),T5 a] [T2 (fO x0 a)]:=by exact Py x0 a _ (BK x0 a h)
theorem NY (x:LDag)(n:Int)(b:Wf.wf x)(g:0≤n)(o:n≤1048576)(h:0≤fO x n):fO x n≤n∧ac.sm x:=by
 have e:=BK x n b;obtain⟨w0,i,a⟩:=b;generalize fO x n=r at *;unfold oK at e;obtain⟨c,e⟩:=fG e h;obtain⟨p,j⟩:=m4 (n:=n) (k:=x.f0.size) g (by omega) w0 c;generalize IntKind.wrap .i64 (n-(x.f0.size:Int))=d at *;obtain⟨a2,e⟩:=fG e h;obtain⟨q,l⟩:=m4 (n:=d) (k:=x.f1.size) c (by omega) i a2;generalize IntKind.wrap .i64 (d-(x.f1.size:Int))=f at *;try rw[Ub a]at e
 obtain⟨a3,e⟩:=fG e h;try rw[Ub a]at e
 obtain⟨s,m⟩:=Jn x.f5 f a a2 (by omega) a3;generalize dX x.f5 f=t at *;cases e;exact⟨by omega,⟨gi j,gi l,m⟩⟩
noncomputable def mH (x0:LPlan)(a:Int):Option (Int):=if Wf.wf x0.f0 then cond (decide ((fO x0.f0 a)<(0:Int))) (some ((-1:Int))) (some (fO x0.f0 a))else none
theorem NR {q0:Kd}(x0:LPlan)(a:Int):Ans (mH x0 a) (fun r=>Does E 32 [.agg (LPlan.t .far q0 x0),T5 a] [T2 r]):=by
 unfold mH;refine TY (fun b => ?_);apply TW<;>intro c
 ·exact TT (DP Tryz.f32 [.ret [T2 (fO x0.f0 a)],.b true] (AV (ψ:=fun k=>E.C k 54 [.agg (LDag.t .far q0 x0.f0),T5 a]=some [T2 (fO x0.f0 a)]) (FD x0.f0 a b)<|AC c<|AN))
 ·exact TT (DP Tryz.f32 [.ret [T2 (fO x0.f0 a)],.b false] (AV (ψ:=fun k=>E.C k 54 [.agg (LDag.t .far q0 x0.f0),T5 a]=some [T2 (fO x0.f0 a)]) (FD x0.f0 a b)<|AC c<|AN))
noncomputable def dG (x:LPlan)(n:Int):Int:=(mH x n).getD (-1)
theorem Ao (x:LPlan)(n:Int)(h:Wf.wf x):mH x n=some (dG x n):=by have w0:Wf.wf x.f0:=h;refine Tot.getD ?_ _;unfold mH;repeat' (first|exact Tot.some _|apply Tot.cond|refine Tot.ite (by assumption) ?_)
theorem Cv {q0:Kd}(x0:LPlan)(a:Int)(h:Wf.wf x0):Does E 32 [.agg (LPlan.t .far q0 x0),T5 a] [T2 (dG x0 a)]:=by exact NR x0 a _ (Ao x0 a h)
theorem LA (x:LPlan)(n:Int)(a:Wf.wf x)(b:0≤n)(f:n≤1048576)(h:0≤dG x n):dG x n≤n∧ac.sm x:=by
 have e:=Ao x n a;have w0:Wf.wf x.f0:=a;generalize dG x n=r at *;unfold mH at e;try rw[Ub w0]at e
 obtain⟨c,e⟩:=fG e h;try rw[Ub w0]at e
 obtain⟨g,d⟩:=NY x.f0 n w0 b (by omega) c;generalize fO x.f0 n=i at *;cases e;exact⟨by omega,d⟩
inductive zH where|ret (v4:Int)|x0 (v1:Int)
def ki (q0:Kd)(v0:List LPlan)(v1 v5:Int):US:=stL 27 [(0,.one (.s .far () 9 (v0.map (LPlan.t q0 q0)))),(1,T5 v1),(5,T5 v5)]
def pH (q0:Kd)(a:Int):US:=stL 27 [(4,T5 a)]
def qu (q0:Kd)(a:Int):US:=stL 27 [(1,T5 a)]
abbrev tO:US→Exit→US→Prop:=Round E 10 (am Tryz.f10 0)
def Jc {q0:Kd}(v0:List LPlan)(v1 v5:Int):zH→Prop| .ret a=>Loops E 10 (am Tryz.f10 0) (ki q0 v0 v1 v5) .ret (pH q0 a)| .x0 b=>Loops E 10 (am Tryz.f10 0) (ki q0 v0 v1 v5) (.exit 0) (qu q0 b)
noncomputable def fz  : List LPlan→Nat→Int→Option zH|[],i,v1=>some (.x0 v1)|hd::rest,i,v1=>if Wf.wf hd then cond (decide ((dG hd v1)<(0:Int))) (some (.ret (-1:Int))) (fz rest (i+1) (dG hd v1))else none
theorem Jb {q0:Kd}(v0:List LPlan)(rest:List LPlan):∀(i:Nat)(v1:Int),(v0).drop i=rest→v0.length≤9223372036854775807→Ans (fz rest i v1) (Jc (q0:=q0) v0 v1 (i:Int)):=by
 induction rest with
 |nil =>intro i v1 a b;have hb:=aI a;unfold fz;exact TT (TV (show tO (ki q0 v0 v1 (i:Int)) (.exit 0) (qu q0 v1)from RP [T8 (v0.length:Int),.b false] (ALn v0 (LPlan.t q0 q0)<|AC hb<|AN)) (by intro h;cases h))
 |cons hd rest g =>
  intro i v1 a b;have hb:=aC a;have j:=aD a b;have c:=aq a;have d:=aB a;unfold fz;refine TY (fun e => ?_);apply TW<;>intro f
  ·exact TT (TV (show tO (ki q0 v0 v1 (i:Int)) .ret (pH q0 (-1:Int))from RP [T8 (v0.length:Int),.b true,.row ((LPlan.t q0 q0) hd),.ret [T2 (dG hd v1)],.b true] (ALn v0 (LPlan.t q0 q0)<|AC hb<|AR (LPlan.t q0 q0) d<|AV (ψ:=fun k=>E.C k 32 [.agg (LPlan.t .far q0 hd),T5 v1]=some [T2 (dG hd v1)]) (Cv hd v1 e)<|AC f<|AN)) (by intro h;cases h))
  ·exact(g (i+1) (dG hd v1) c b).mono fun y l=>by have r:tO (ki q0 v0 v1 (i:Int)) .normal (ki q0 v0 (dG hd v1) (inc (i:Int))):=RP [T8 (v0.length:Int),.b true,.row ((LPlan.t q0 q0) hd),.ret [T2 (dG hd v1)],.b false] (ALn v0 (LPlan.t q0 q0)<|AC hb<|AR (LPlan.t q0 q0) d<|AV (ψ:=fun k=>E.C k 32 [.agg (LPlan.t .far q0 hd),T5 v1]=some [T2 (dG hd v1)]) (Cv hd v1 e)<|AC f<|AN);rw[j]at r;cases y<;>exact TU r l
noncomputable def lk (x0:List LPlan)(c:Int):Option (Int):=
  cond (decide ((IntKind.wrap .i64 (c-(x0.length:Int)))<(0:Int)))
   (some ((-1:Int)))
   (if x0.length≤9223372036854775807 then(fz x0 0 (IntKind.wrap .i64 (c-(x0.length:Int)))).bind fun y=>match y with
    | .ret a=>(some (a))
    | .x0 b=>(some (b))else none)
theorem Lq {q0:Kd}(x0:List LPlan)(d:Int):Ans (lk x0 d) (fun r=>Does E 10 [.one (.s .far () 9 (x0.map (LPlan.t q0 q0))),T5 d] [T2 r]):=by
 unfold lk;apply TW<;>intro e
 ·exact TT (DP Tryz.f10 [T8 (x0.length:Int),.no,.b true] (ALn x0 (LPlan.t q0 q0)<|AC e<|AN))
 ·refine TY (fun f => ?_);refine TX (fun y c => ?_);replace c:=Jb (q0:=q0) x0 x0 0 (IntKind.wrap .i64 (d-(x0.length:Int))) rfl f y c;cases y with
  |ret a =>have g:=c;exact TT (DP Tryz.f10 [T8 (x0.length:Int),.no,.b false,.lp .ret (pH q0 a)] (ALn x0 (LPlan.t q0 q0)<|AC e<|AL g<|AN))
  |x0 b =>have g:=c;exact TT (DP Tryz.f10 [T8 (x0.length:Int),.no,.b false,.lp (.exit 0) (qu q0 b)] (ALn x0 (LPlan.t q0 q0)<|AC e<|AL g<|AN))
noncomputable def bB (x:List LPlan)(n:Int):Int:=(lk x n).getD (-1)
theorem Al:∀(rest:List LPlan)(i:Nat)(n:Int),(∀y∈rest,Wf.wf y)→Tot (fz rest i n)
 |[],i,n,_=>Tot.some _
 |x::rest,i,n,h=>by
  have c:=h x (by simp);have a:=fun i n=>Al rest i n fun y b=>h y (by simp[b])
  unfold fz;repeat' (first|exact Tot.some _|exact a _ _|apply Tot.cond|refine Tot.ite (by assumption) ?_)
theorem yv (x:List LPlan)(n:Int)(h:Wf.wf x):lk x n=some (bB x n):=by refine Tot.getD ?_ _;unfold lk;refine Tot.cond (Tot.some _) ?_;refine Tot.ite h.1 (Tot.bind (Al x 0 _ h.2) fun y a => ?_);cases y<;>exact Tot.some _
theorem uZ {q0:Kd}(x0:List LPlan)(a:Int)(h:Wf.wf x0):Does E 10 [.one (.s .far () 9 (x0.map (LPlan.t q0 q0))),T5 a] [T2 (bB x0 a)]:=by exact Lq x0 a _ (yv x0 a h)
theorem x9:∀(rest:List LPlan)(i:Nat)(n:Int),(∀y∈rest,Wf.wf y)→0≤n→n≤1048576→∀y,fz rest i n=some y →
  (∃m,y = .x0 m∧0≤m∧m≤n∧∀z∈rest,ac.sm z)∨∃m,y = .ret m∧m<0
 |[],i,n,_,a,f,y,e=>by cases e;exact .inl ⟨n,rfl,a,Ve _,fun z hz=>by cases hz⟩
 |x::rest,i,n,h,a,f,y,e=>by
  have d:=h x (by simp);unfold fz at e;try rw[Ub d]at e
  by_cases q:dG x n<0
  ·rw[Uj q,Uo]at e;cases e;exact .inr ⟨_,rfl,by omega⟩
  ·rw[Uk q,Uu]at e;try rw[Ub d]at e
   obtain⟨b,c⟩:=LA x n d a f (by omega);rcases x9 rest _ _ (fun y j=>h y (by simp[j])) (by omega) (by omega) y e with⟨m,g1,k,g3,g4⟩|g
   ·refine .inl ⟨m,g1,k,by omega,fun z hz => ?_⟩;rcases UE.1 hz with rfl|hz
    ·exact c
    ·exact g4 z hz
   ·exact .inr g
theorem Jm (x:List LPlan)(n:Int)(a:Wf.wf x)(d:0≤n)(f:n≤1048576)(h:0≤bB x n):bB x n≤n∧ac.sm x:=by
 have e:=yv x n a;generalize bB x n=r at *;unfold lk at e;obtain⟨b,e⟩:=fG e h;obtain⟨l,i⟩:=m4 (n:=n) (k:=x.length) d f a.1 b;rw[Ub a.1,Uc]at e;obtain⟨y,j,c⟩:=e;rcases x9 x 0 _ a.2 b (by omega) y j with⟨m,rfl,o,g3,g4⟩|⟨m,rfl,g⟩
 ·cases c;exact⟨by omega,gi i,g4⟩
 ·cases c;omega
noncomputable def kj (x0:List GState)(a:Int):Option (Int):=cond (decide ((IntKind.wrap .i64 (a-(x0.length:Int)))<(0:Int))) (some ((-1:Int))) (some (IntKind.wrap .i64 (a-(x0.length:Int))))
theorem Jd (x0:List GState)(a:Int):Ans (kj x0 a) (fun r=>Does E 55 [.one (.s .far () 4 (x0.map GState.t)),T5 a] [T2 r]):=by
 unfold kj;apply TW<;>intro b
 ·exact TT (DP Tryz.f55 [T8 (x0.length:Int),.no,.b true] (ALn x0 GState.t<|AC b<|AN))
 ·exact TT (DP Tryz.f55 [T8 (x0.length:Int),.no,.b false] (ALn x0 GState.t<|AC b<|AN))
noncomputable def eL (x:List GState)(n:Int):Int:=(kj x n).getD (-1)
theorem wC (x:List GState)(n:Int)(h:Wf.wf x):kj x n=some (eL x n):=by refine Tot.getD ?_ _;unfold kj;refine Tot.cond (Tot.some _) ?_;exact Tot.some _
theorem yK (x0:List GState)(a:Int)(h:Wf.wf x0):Does E 55 [.one (.s .far () 4 (x0.map GState.t)),T5 a] [T2 (eL x0 a)]:=by exact Jd x0 a _ (wC x0 a h)
theorem GR (x:List GState)(n:Int)(a:Wf.wf x)(b:0≤n)(c:n≤1048576)(h:0≤eL x n):eL x n≤n∧ac.sm x:=by have e:=wC x n a;generalize eL x n=r at *;unfold kj at e;obtain⟨d,e⟩:=fG e h;obtain⟨f,g⟩:=m4 (n:=n) (k:=x.length) b c a.1 d;cases e;exact⟨f,gi g,fun y _=>trivial⟩
noncomputable def oL (x0:LRun)(a:Int):Option (Int):=cond (decide ((IntKind.wrap .i64 (a-(x0.f0.size:Int)))<(0:Int))) (some ((-1:Int))) (if Wf.wf x0.f3 then cond (decide ((eL x0.f3 (IntKind.wrap .i64 (a-(x0.f0.size:Int))))<(0:Int))) (some ((-1:Int))) (some (eL x0.f3 (IntKind.wrap .i64 (a-(x0.f0.size:Int)))))else none)
theorem Pz (x0:LRun)(a:Int):Ans (oL x0 a) (fun r=>Does E 33 [.agg (LRun.t .far x0),T5 a] [T2 r]):=by
 unfold oL;apply TW<;>intro b
 ·exact TT (DP Tryz.f33 [.no,.b true] (AC b<|AN))
 ·refine TY (fun c => ?_);apply TW<;>intro d
  ·exact TT (DP Tryz.f33 [.no,.b false,.ret [T2 (eL x0.f3 (IntKind.wrap .i64 (a-(x0.f0.size:Int))))],.b true] (AC b<|AD (yK x0.f3 (IntKind.wrap .i64 (a-(x0.f0.size:Int))) c)<|AC d<|AN))
  ·exact TT (DP Tryz.f33 [.no,.b false,.ret [T2 (eL x0.f3 (IntKind.wrap .i64 (a-(x0.f0.size:Int))))],.b false] (AC b<|AD (yK x0.f3 (IntKind.wrap .i64 (a-(x0.f0.size:Int))) c)<|AC d<|AN))
noncomputable def fP (x:LRun)(n:Int):Int:=(oL x n).getD (-1)
theorem BL (x:LRun)(n:Int)(h:Wf.wf x):oL x n=some (fP x n):=by obtain⟨w0,a,b⟩:=h;refine Tot.getD ?_ _;unfold oL;repeat' (first|exact Tot.some _|apply Tot.cond|refine Tot.ite (by assumption) ?_)
theorem FE (x0:LRun)(a:Int)(h:Wf.wf x0):Does E 33 [.agg (LRun.t .far x0),T5 a] [T2 (fP x0 a)]:=by exact Pz x0 a _ (BL x0 a h)
theorem NZ (x:LRun)(n:Int)(b:Wf.wf x)(f:0≤n)(j:n≤1048576)(h:0≤fP x n):fP x n≤n∧ac.sm x:=by
 have e:=BL x n b;obtain⟨w0,l,a⟩:=b;generalize fP x n=r at *;unfold oL at e;obtain⟨c,e⟩:=fG e h;obtain⟨m,g⟩:=m4 (n:=n) (k:=x.f0.size) f (by omega) w0 c;generalize IntKind.wrap .i64 (n-(x.f0.size:Int))=d at *;try rw[Ub a]at e
 obtain⟨a2,e⟩:=fG e h;try rw[Ub a]at e
 obtain⟨o,i⟩:=GR x.f3 d a c (by omega) a2;generalize eL x.f3 d=p at *;cases e;exact⟨by omega,⟨gi g,trivial,i⟩⟩
inductive Bf where|ret (v4:Int)|x0 (v1:Int)
def ll (q0:Kd)(v0:List LRun)(v1 v5:Int):US:=stL 27 [(0,.one (.s .far () 5 (v0.map (LRun.t q0)))),(1,T5 v1),(5,T5 v5)]
def qv (q0:Kd)(a:Int):US:=stL 27 [(4,T5 a)]
def r9 (q0:Kd)(a:Int):US:=stL 27 [(1,T5 a)]
abbrev vn:US→Exit→US→Prop:=Round E 11 (am Tryz.f11 0)
def Ls {q0:Kd}(v0:List LRun)(v1 v5:Int):Bf→Prop| .ret a=>Loops E 11 (am Tryz.f11 0) (ll q0 v0 v1 v5) .ret (qv q0 a)| .x0 b=>Loops E 11 (am Tryz.f11 0) (ll q0 v0 v1 v5) (.exit 0) (r9 q0 b)
noncomputable def gp  : List LRun→Nat→Int→Option Bf|[],i,v1=>some (.x0 v1)|hd::rest,i,v1=>if Wf.wf hd then cond (decide ((fP hd v1)<(0:Int))) (some (.ret (-1:Int))) (gp rest (i+1) (fP hd v1))else none
theorem Lr {q0:Kd}(v0:List LRun)(rest:List LRun):∀(i:Nat)(v1:Int),(v0).drop i=rest→v0.length≤9223372036854775807→Ans (gp rest i v1) (Ls (q0:=q0) v0 v1 (i:Int)):=by
 induction rest with
 |nil =>intro i v1 a b;have hb:=aI a;unfold gp;exact TT (TV (show vn (ll q0 v0 v1 (i:Int)) (.exit 0) (r9 q0 v1)from RP [T8 (v0.length:Int),.b false] (ALn v0 (LRun.t q0)<|AC hb<|AN)) (by intro h;cases h))
 |cons hd rest g =>
  intro i v1 a b;have hb:=aC a;have j:=aD a b;have c:=aq a;have d:=aB a;unfold gp;refine TY (fun e => ?_);apply TW<;>intro f
  ·exact TT (TV (show vn (ll q0 v0 v1 (i:Int)) .ret (qv q0 (-1:Int))from RP [T8 (v0.length:Int),.b true,.row ((LRun.t q0) hd),.ret [T2 (fP hd v1)],.b true] (ALn v0 (LRun.t q0)<|AC hb<|AR (LRun.t q0) d<|AD (FE hd v1 e)<|AC f<|AN)) (by intro h;cases h))
  ·exact(g (i+1) (fP hd v1) c b).mono fun y k=>by have r:vn (ll q0 v0 v1 (i:Int)) .normal (ll q0 v0 (fP hd v1) (inc (i:Int))):=RP [T8 (v0.length:Int),.b true,.row ((LRun.t q0) hd),.ret [T2 (fP hd v1)],.b false] (ALn v0 (LRun.t q0)<|AC hb<|AR (LRun.t q0) d<|AD (FE hd v1 e)<|AC f<|AN);rw[j]at r;cases y<;>exact TU r k
noncomputable def mI (x0:List LRun)(c:Int):Option (Int):=
  cond (decide ((IntKind.wrap .i64 (c-(x0.length:Int)))<(0:Int)))
   (some ((-1:Int)))
   (if x0.length≤9223372036854775807 then(gp x0 0 (IntKind.wrap .i64 (c-(x0.length:Int)))).bind fun y=>match y with
    | .ret a=>(some (a))
    | .x0 b=>(some (b))else none)
theorem NS {q0:Kd}(x0:List LRun)(d:Int):Ans (mI x0 d) (fun r=>Does E 11 [.one (.s .far () 5 (x0.map (LRun.t q0))),T5 d] [T2 r]):=by
 unfold mI;apply TW<;>intro e
 ·exact TT (DP Tryz.f11 [T8 (x0.length:Int),.no,.b true] (ALn x0 (LRun.t q0)<|AC e<|AN))
 ·refine TY (fun f => ?_);refine TX (fun y c => ?_);replace c:=Lr (q0:=q0) x0 x0 0 (IntKind.wrap .i64 (d-(x0.length:Int))) rfl f y c;cases y with
  |ret a =>have g:=c;exact TT (DP Tryz.f11 [T8 (x0.length:Int),.no,.b false,.lp .ret (qv q0 a)] (ALn x0 (LRun.t q0)<|AC e<|AL g<|AN))
  |x0 b =>have g:=c;exact TT (DP Tryz.f11 [T8 (x0.length:Int),.no,.b false,.lp (.exit 0) (r9 q0 b)] (ALn x0 (LRun.t q0)<|AC e<|AL g<|AN))
noncomputable def eT (x:List LRun)(n:Int):Int:=(mI x n).getD (-1)
theorem BJ:∀(rest:List LRun)(i:Nat)(n:Int),(∀y∈rest,Wf.wf y)→Tot (gp rest i n)
 |[],i,n,_=>Tot.some _
 |x::rest,i,n,h=>by
  have c:=h x (by simp);have a:=fun i n=>BJ rest i n fun y b=>h y (by simp[b])
  unfold gp;repeat' (first|exact Tot.some _|exact a _ _|apply Tot.cond|refine Tot.ite (by assumption) ?_)
theorem Ap (x:List LRun)(n:Int)(h:Wf.wf x):mI x n=some (eT x n):=by refine Tot.getD ?_ _;unfold mI;refine Tot.cond (Tot.some _) ?_;refine Tot.ite h.1 (Tot.bind (BJ x 0 _ h.2) fun y a => ?_);cases y<;>exact Tot.some _
theorem Cw {q0:Kd}(x0:List LRun)(a:Int)(h:Wf.wf x0):Does E 11 [.one (.s .far () 5 (x0.map (LRun.t q0))),T5 a] [T2 (eT x0 a)]:=by exact NS x0 a _ (Ap x0 a h)
theorem zP:∀(rest:List LRun)(i:Nat)(n:Int),(∀y∈rest,Wf.wf y)→0≤n→n≤1048576→∀y,gp rest i n=some y →
  (∃m,y = .x0 m∧0≤m∧m≤n∧∀z∈rest,ac.sm z)∨∃m,y = .ret m∧m<0
 |[],i,n,_,a,f,y,e=>by cases e;exact .inl ⟨n,rfl,a,Ve _,fun z hz=>by cases hz⟩
 |x::rest,i,n,h,a,f,y,e=>by
  have d:=h x (by simp);unfold gp at e;try rw[Ub d]at e
  by_cases q:fP x n<0
  ·rw[Uj q,Uo]at e;cases e;exact .inr ⟨_,rfl,by omega⟩
  ·rw[Uk q,Uu]at e;try rw[Ub d]at e
   obtain⟨b,c⟩:=NZ x n d a f (by omega);rcases zP rest _ _ (fun y j=>h y (by simp[j])) (by omega) (by omega) y e with⟨m,g1,k,g3,g4⟩|g
   ·refine .inl ⟨m,g1,k,by omega,fun z hz => ?_⟩;rcases UE.1 hz with rfl|hz
    ·exact c
    ·exact g4 z hz
   ·exact .inr g
theorem LB (x:List LRun)(n:Int)(a:Wf.wf x)(d:0≤n)(f:n≤1048576)(h:0≤eT x n):eT x n≤n∧ac.sm x:=by
 have e:=Ap x n a;generalize eT x n=r at *;unfold mI at e;obtain⟨b,e⟩:=fG e h;obtain⟨l,i⟩:=m4 (n:=n) (k:=x.length) d f a.1 b;rw[Ub a.1,Uc]at e;obtain⟨y,j,c⟩:=e;rcases zP x 0 _ a.2 b (by omega) y j with⟨m,rfl,o,g3,g4⟩|⟨m,rfl,g⟩
 ·cases c;exact⟨by omega,gi i,g4⟩
 ·cases c;omega
noncomputable def lj (x0:LBoard)(a:Int):Option (Int):=if Wf.wf x0.f0 then cond (decide ((aG x0.f0 a)<(0:Int))) (some ((-1:Int))) (if Wf.wf x0.f1 then cond (decide ((bB x0.f1 (aG x0.f0 a))<(0:Int))) (some ((-1:Int))) (if Wf.wf x0.f2 then cond (decide ((eT x0.f2 (bB x0.f1 (aG x0.f0 a)))<(0:Int))) (some ((-1:Int))) (some (eT x0.f2 (bB x0.f1 (aG x0.f0 a))))else none)else none)else none
theorem Lp {q0:Kd}(x0:LBoard)(a:Int):Ans (lj x0 a) (fun r=>Does E 4 [.agg (LBoard.t .far q0 x0),T5 a] [T2 r]):=by
 unfold lj;refine TY (fun b => ?_);apply TW<;>intro c
 ·exact TT (DP Tryz.f4 [.ret [T2 (aG x0.f0 a)],.b true] (AD (mr x0.f0 a b)<|AC c<|AN))
 ·refine TY (fun d => ?_);apply TW<;>intro e
  ·exact TT (DP Tryz.f4 [.ret [T2 (aG x0.f0 a)],.b false,.ret [T2 (bB x0.f1 (aG x0.f0 a))],.b true] (AD (mr x0.f0 a b)<|AC c<|AV (ψ:=fun k=>E.C k 10 [.one (.s .far () 9 (x0.f1.map (LPlan.t q0 q0))),T5 (aG x0.f0 a)]=some [T2 (bB x0.f1 (aG x0.f0 a))]) (uZ x0.f1 (aG x0.f0 a) d)<|AC e<|AN))
  ·refine TY (fun f => ?_);apply TW<;>intro g
   ·exact TT (DP Tryz.f4 [.ret [T2 (aG x0.f0 a)],.b false,.ret [T2 (bB x0.f1 (aG x0.f0 a))],.b false,.ret [T2 (eT x0.f2 (bB x0.f1 (aG x0.f0 a)))],.b true] (AD (mr x0.f0 a b)<|AC c<|AV (ψ:=fun k=>E.C k 10 [.one (.s .far () 9 (x0.f1.map (LPlan.t q0 q0))),T5 (aG x0.f0 a)]=some [T2 (bB x0.f1 (aG x0.f0 a))]) (uZ x0.f1 (aG x0.f0 a) d)<|AC e<|AV (ψ:=fun k=>E.C k 11 [.one (.s .far () 5 (x0.f2.map (LRun.t q0))),T5 (bB x0.f1 (aG x0.f0 a))]=some [T2 (eT x0.f2 (bB x0.f1 (aG x0.f0 a)))]) (Cw x0.f2 (bB x0.f1 (aG x0.f0 a)) f)<|AC g<|AN))
   ·exact TT (DP Tryz.f4 [.ret [T2 (aG x0.f0 a)],.b false,.ret [T2 (bB x0.f1 (aG x0.f0 a))],.b false,.ret [T2 (eT x0.f2 (bB x0.f1 (aG x0.f0 a)))],.b false] (AD (mr x0.f0 a b)<|AC c<|AV (ψ:=fun k=>E.C k 10 [.one (.s .far () 9 (x0.f1.map (LPlan.t q0 q0))),T5 (aG x0.f0 a)]=some [T2 (bB x0.f1 (aG x0.f0 a))]) (uZ x0.f1 (aG x0.f0 a) d)<|AC e<|AV (ψ:=fun k=>E.C k 11 [.one (.s .far () 5 (x0.f2.map (LRun.t q0))),T5 (bB x0.f1 (aG x0.f0 a))]=some [T2 (eT x0.f2 (bB x0.f1 (aG x0.f0 a)))]) (Cw x0.f2 (bB x0.f1 (aG x0.f0 a)) f)<|AC g<|AN))
noncomputable def cY (x:LBoard)(n:Int):Int:=(lj x n).getD (-1)
theorem yu (x:LBoard)(n:Int)(h:Wf.wf x):lj x n=some (cY x n):=by obtain⟨w0,a,b⟩:=h;refine Tot.getD ?_ _;unfold lj;repeat' (first|exact Tot.some _|apply Tot.cond|refine Tot.ite (by assumption) ?_)
theorem qS {q0:Kd}(x0:LBoard)(a:Int)(h:Wf.wf x0):Does E 4 [.agg (LBoard.t .far q0 x0),T5 a] [T2 (cY x0 a)]:=by exact Lp x0 a _ (yu x0 a h)
theorem Jl (x:LBoard)(n:Int)(c:Wf.wf x)(i:0≤n)(m:n≤1048576)(h:0≤cY x n):cY x n≤n∧ac.sm x:=by
 have e:=yu x n c;obtain⟨w0,a,b⟩:=c;generalize cY x n=r at *;unfold lj at e;try rw[Ub w0]at e
 obtain⟨d,e⟩:=fG e h;try rw[Ub w0]at e
 obtain⟨o,j⟩:=Di x.f0 n w0 i (by omega) d;generalize aG x.f0 n=f at *;try rw[Ub a]at e
 obtain⟨a2,e⟩:=fG e h;try rw[Ub a]at e
 obtain⟨p,k⟩:=Jm x.f1 f a d (by omega) a2;generalize bB x.f1 f=g at *;try rw[Ub b]at e
 obtain⟨a3,e⟩:=fG e h;try rw[Ub b]at e
 obtain⟨q,l⟩:=LB x.f2 g b a2 (by omega) a3;generalize eT x.f2 g=s at *;cases e;exact⟨by omega,⟨j,k,l⟩⟩
noncomputable def sb (x0:GSession):Option (GSession):=some (x0)
theorem GN (x0:GSession):Ans (sb x0) (fun r=>Does E 40 [.agg (GSession.t x0)] [(true,GSession.t r)]):=by unfold sb;exact TT (DP Tryz.f40 [] AN)
def dk (x:GSession):GSession:=x
theorem Gh (x0:GSession)(h:ac.sm x0):Does E 40 [.agg (GSession.t x0)] [(true,GSession.t (dk x0))]:=by
 have a:ac.sm x0.f2:=h;exact GN x0 _ (by
  unfold sb;repeat rw[Ub (by assumption)]
  rfl)
inductive uL where|x0 (v3:List GSession)
def lK (v0 v3:List GSession)(v4:Int):US:=stL 23 [(0,.one (.s .far () 3 (v0.map GSession.t))),(3,.one (.s .own () 3 (v3.map GSession.t))),(4,T5 v4)]
def nj (a:List GSession):US:=stL 23 [(3,.one (.s .own () 3 (a.map GSession.t)))]
abbrev uK:US→Exit→US→Prop:=Round E 17 (am Tryz.f17 0)
def Dh (v0 v3:List GSession)(v4:Int):uL→Prop| .x0 a=>Loops E 17 (am Tryz.f17 0) (lK v0 v3 v4) (.exit 0) (nj a)
noncomputable def eA  : List GSession→Nat→(List GSession)→Option uL|[],i,v3=>some (.x0 v3)|hd::rest,i,v3=>if ac.sm hd then(ak v3 (i:Int)).bind fun g1=>eA rest (i+1) (v3.set (i:Int).toNat (dk hd))else none
theorem Dg (v0:List GSession)(rest:List GSession):∀(i:Nat)(v3:List GSession),(v0).drop i=rest→v0.length≤9223372036854775807→Ans (eA rest i v3) (Dh v0 v3 (i:Int)):=by
 induction rest with
 |nil =>intro i v3 a b;have hb:=aI a;unfold eA;exact TT (TV (show uK (lK v0 v3 (i:Int)) (.exit 0) (nj v3)from RP [T8 (v0.length:Int),.b false] (ALn v0 GSession.t<|AC hb<|AN)) (by intro h;cases h))
 |cons hd rest d =>intro i v3 a b;have hb:=aC a;have e:=aD a b;have c:=aq a;have f:=aB a;unfold eA;refine TY (fun g => ?_);refine TX (fun g1 j => ?_);exact(d (i+1) (v3.set (i:Int).toNat (dk hd)) c b).mono fun y k=>by have r:uK (lK v0 v3 (i:Int)) .normal (lK v0 (v3.set (i:Int).toNat (dk hd)) (inc (i:Int))):=RP [T8 (v0.length:Int),.b true,.row (GSession.t hd),.ret [(true,GSession.t (dk hd))],.row (GSession.t g1),.rows ((v3.set (i:Int).toNat (dk hd)).map GSession.t)] (ALn v0 GSession.t<|AC hb<|AR GSession.t f<|AD (Gh hd g)<|AG GSession.t j<|AC (p:=(v3.map GSession.t).set (0+(i:Int).toNat) (aA (GSession.t g1) 0 [tI ((dk hd).f0),tI ((dk hd).f1),tS ((dk hd).f2)])=(v3.set (i:Int).toNat (dk hd)).map GSession.t) (gN (by rfl))<|AN);rw[e]at r;cases y<;>exact TU r k
noncomputable def qz (x0:List GSession):Option ((List GSession)):=
  if 0≤(x0.length:Int)∧(x0.length:Int)≤(x0.length:Int)∧((32:Nat):Int)*(x0.length:Int)≤281474976710656∧(x0.length:Int)≤4611686018427387904 then if x0.length≤9223372036854775807 then(eA x0 0 (List.replicate (x0.length:Int).toNat (GSession.mk 0 0 ByteArray.empty))).bind fun y=>match y with
   | .x0 a=>(some (a))else none else none
theorem Ey (x0:List GSession):Ans (qz x0) (fun r=>Does E 17 [.one (.s .far () 3 (x0.map GSession.t))] [(false,[.s .own () 3 (r.map GSession.t)])]):=by
 unfold qz;refine TY (fun d => ?_);refine TY (fun b => ?_);refine TX (fun y c => ?_);replace c:=Dg x0 x0 0 (List.replicate (x0.length:Int).toNat (GSession.mk 0 0 ByteArray.empty)) rfl b y c;cases y with
 |x0 a =>have e:=c;exact TT (DP Tryz.f17 [T8 (x0.length:Int),.rows ((List.replicate (x0.length:Int).toNat (GSession.mk 0 0 ByteArray.empty)).map GSession.t),.lp (.exit 0) (nj a)] (ALn x0 GSession.t<|AC d<|AC (p:=List.replicate (x0.length:Int).toNat [tI 0,tI 0,tS ByteArray.empty]=(List.replicate (x0.length:Int).toNat (GSession.mk 0 0 ByteArray.empty)).map GSession.t) (nE rfl)<|AL e<|AN))
def km (l:List GSession):List GSession:=l
theorem uv:∀(rest:List GSession)(i:Nat)(v:List GSession),(∀y∈rest,ac.sm y)→v.length=i+rest.length→eA rest i v=some (.x0 (v.take i++rest))
 |[],i,v,_,hv=>by unfold eA;rw[VG (by simp at hv;omega)];simp
 |x::rest,i,v,h,hv=>by
  have a:=h x (by simp);have hi:i<v.length:=by simp at hv;omega
  unfold eA;rw[ct,Ug hi,Ua];try rw[Ub a]
  rw[Vz,uv rest (i+1) _ (fun y b=>h y (by simp[b])) (by simp at hv ⊢;omega),tg hi];simp[dk]
theorem D7 (x0:List GSession)(h:ac.sm x0):Does E 17 [.one (.s .far () 3 (x0.map GSession.t))] [(false,[.s .own () 3 ((km x0).map GSession.t)])]:=by exact Ey x0 _ (by unfold qz;rw[Ub (wk 32 (by decide) h.1 rfl),Ub (bI h),uv x0 0 _ h.2 (by simp)];simp[km])
inductive wj where|x0 (v3:List ByteArray)
def mK (v0 v3:List ByteArray)(v4:Int):US:=stL 22 [(0,.one (.s .far () 1 (v0.map etS))),(3,.one (.s .own () 1 (v3.map etS))),(4,T5 v4)]
def oq (a:List ByteArray):US:=stL 22 [(3,.one (.s .own () 1 (a.map etS)))]
abbrev wi:US→Exit→US→Prop:=Round E 123 (am Tryz.f123 0)
def EA (v0 v3:List ByteArray)(v4:Int):wj→Prop| .x0 a=>Loops E 123 (am Tryz.f123 0) (mK v0 v3 v4) (.exit 0) (oq a)
noncomputable def fd  : List ByteArray→Nat→(List ByteArray)→Option wj|[],i,v3=>some (.x0 v3)|hd::rest,i,v3=>(ak v3 (i:Int)).bind fun g1=>fd rest (i+1) (v3.set (i:Int).toNat hd)
theorem Ez (v0:List ByteArray)(rest:List ByteArray):∀(i:Nat)(v3:List ByteArray),(v0).drop i=rest→v0.length≤9223372036854775807→Ans (fd rest i v3) (EA v0 v3 (i:Int)):=by
 induction rest with
 |nil =>intro i v3 a b;have hb:=aI a;unfold fd;exact TT (TV (show wi (mK v0 v3 (i:Int)) (.exit 0) (oq v3)from RP [T8 (v0.length:Int),.b false] (ALn v0 etS<|AC hb<|AN)) (by intro h;cases h))
 |cons hd rest d =>intro i v3 a b;have hb:=aC a;have e:=aD a b;have c:=aq a;have f:=aB a;unfold fd;refine TX (fun g1 g => ?_);exact(d (i+1) (v3.set (i:Int).toNat hd) c b).mono fun y j=>by have r:wi (mK v0 v3 (i:Int)) .normal (mK v0 (v3.set (i:Int).toNat hd) (inc (i:Int))):=RP [T8 (v0.length:Int),.b true,.row (etS hd),.row (etS g1),.rows ((v3.set (i:Int).toNat hd).map etS)] (ALn v0 etS<|AC hb<|AR etS f<|AG etS g<|AC (p:=(v3.map etS).set (0+(i:Int).toNat) (aA (etS g1) 0 [tS hd])=(v3.set (i:Int).toNat hd).map etS) (gN (by rfl))<|AN);rw[e]at r;cases y<;>exact TU r j
noncomputable def se (x0:List ByteArray):Option ((List ByteArray)):=
  if 0≤(x0.length:Int)∧(x0.length:Int)≤(x0.length:Int)∧((16:Nat):Int)*(x0.length:Int)≤281474976710656∧(x0.length:Int)≤4611686018427387904 then if x0.length≤9223372036854775807 then(fd x0 0 (List.replicate (x0.length:Int).toNat ByteArray.empty)).bind fun y=>match y with
   | .x0 a=>(some (a))else none else none
theorem GQ (x0:List ByteArray):Ans (se x0) (fun r=>Does E 123 [.one (.s .far () 1 (x0.map etS))] [(false,[.s .own () 1 (r.map etS)])]):=by
 unfold se;refine TY (fun d => ?_);refine TY (fun b => ?_);refine TX (fun y c => ?_);replace c:=Ez x0 x0 0 (List.replicate (x0.length:Int).toNat ByteArray.empty) rfl b y c;cases y with
 |x0 a =>have e:=c;exact TT (DP Tryz.f123 [T8 (x0.length:Int),.rows ((List.replicate (x0.length:Int).toNat ByteArray.empty).map etS),.lp (.exit 0) (oq a)] (ALn x0 etS<|AC d<|AC (p:=List.replicate (x0.length:Int).toNat [tS ByteArray.empty]=(List.replicate (x0.length:Int).toNat ByteArray.empty).map etS) (nE rfl)<|AL e<|AN))
def nS (l:List ByteArray):List ByteArray:=l
theorem vN:∀(rest:List ByteArray)(i:Nat)(v:List ByteArray),(∀y∈rest,ac.sm y)→v.length=i+rest.length→fd rest i v=some (.x0 (v.take i++rest))
 |[],i,v,_,hv=>by unfold fd;rw[VG (by simp at hv;omega)];simp
 |x::rest,i,v,h,hv=>by
  have a:=h x (by simp);have hi:i<v.length:=by simp at hv;omega
  unfold fd;rw[ct,Ug hi,Ua];try rw[Ub a]
  rw[Vz,vN rest (i+1) _ (fun y b=>h y (by simp[b])) (by simp at hv ⊢;omega),tg hi];simp
theorem Gi (x0:List ByteArray)(h:ac.sm x0):Does E 123 [.one (.s .far () 1 (x0.map etS))] [(false,[.s .own () 1 ((nS x0).map etS)])]:=by exact GQ x0 _ (by unfold se;rw[Ub (wk 16 (by decide) h.1 rfl),Ub (bI h),vN x0 0 _ h.2 (by simp)];simp[nS])
noncomputable def xn (x0:GTask):Option (GTask):=if ac.sm x0.f4 then some ((GTask.mk x0.f0 x0.f1 x0.f2 x0.f3 (nS x0.f4)))else none
theorem NX (x0:GTask):Ans (xn x0) (fun r=>Does E 110 [.agg (GTask.t .far x0)] [(true,GTask.t .own r)]):=by unfold xn;refine TY (fun a => ?_);exact TT (DP Tryz.f110 [.ret [(false,[.s .own () 1 ((nS x0.f4).map etS)])]] (AD (Gi x0.f4 a)<|AN))
def d9 (x:GTask):GTask:=x
theorem MY (x0:GTask)(h:ac.sm x0):Does E 110 [.agg (GTask.t .far x0)] [(true,GTask.t .own (d9 x0))]:=by
 obtain⟨w0,a,b⟩:=h;exact NX x0 _ (by
  unfold xn;repeat rw[Ub (by assumption)]
  rfl)
inductive zO where|x0 (v3:List GTask)
def pM (q0:Kd)(v0 v3:List GTask)(v4:Int):US:=stL 23 [(0,.one (.s .far () 5 (v0.map (GTask.t q0)))),(3,.one (.s .own () 5 (v3.map (GTask.t .own)))),(4,T5 v4)]
def qA (q0:Kd)(a:List GTask):US:=stL 23 [(3,.one (.s .own () 5 (a.map (GTask.t .own))))]
abbrev zN:US→Exit→US→Prop:=Round E 90 (am Tryz.f90 0)
def Jk {q0:Kd}(v0 v3:List GTask)(v4:Int):zO→Prop| .x0 a=>Loops E 90 (am Tryz.f90 0) (pM q0 v0 v3 v4) (.exit 0) (qA q0 a)
noncomputable def gG  : List GTask→Nat→(List GTask)→Option zO|[],i,v3=>some (.x0 v3)|hd::rest,i,v3=>if ac.sm hd then(ak v3 (i:Int)).bind fun g1=>gG rest (i+1) (v3.set (i:Int).toNat (d9 hd))else none
theorem Jj {q0:Kd}(v0:List GTask)(rest:List GTask):∀(i:Nat)(v3:List GTask),(v0).drop i=rest→v0.length≤9223372036854775807→Ans (gG rest i v3) (Jk (q0:=q0) v0 v3 (i:Int)):=by
 induction rest with
 |nil =>intro i v3 a b;have hb:=aI a;unfold gG;exact TT (TV (show zN (pM q0 v0 v3 (i:Int)) (.exit 0) (qA q0 v3)from RP [T8 (v0.length:Int),.b false] (ALn v0 (GTask.t q0)<|AC hb<|AN)) (by intro h;cases h))
 |cons hd rest d =>intro i v3 a b;have hb:=aC a;have e:=aD a b;have c:=aq a;have f:=aB a;unfold gG;refine TY (fun g => ?_);refine TX (fun g1 j => ?_);exact(d (i+1) (v3.set (i:Int).toNat (d9 hd)) c b).mono fun y k=>by have r:zN (pM q0 v0 v3 (i:Int)) .normal (pM q0 v0 (v3.set (i:Int).toNat (d9 hd)) (inc (i:Int))):=RP [T8 (v0.length:Int),.b true,.row ((GTask.t q0) hd),.ret [(true,GTask.t .own (d9 hd))],.row ((GTask.t .own) g1),.rows ((v3.set (i:Int).toNat (d9 hd)).map (GTask.t .own))] (ALn v0 (GTask.t q0)<|AC hb<|AR (GTask.t q0) f<|AD (MY hd g)<|AG (GTask.t .own) j<|AC (p:=(v3.map (GTask.t .own)).set (0+(i:Int).toNat) (aA ((GTask.t .own) g1) 0 [tS ((d9 hd).f0),tS ((d9 hd).f1),tI ((d9 hd).f2),tB ((d9 hd).f3),.s .own () 1 (((d9 hd).f4).map etS)])=(v3.set (i:Int).toNat (d9 hd)).map (GTask.t .own)) (gN (by rfl))<|AN);rw[e]at r;cases y<;>exact TU r k
noncomputable def vr (x0:List GTask):Option ((List GTask)):=
  if 0≤(x0.length:Int)∧(x0.length:Int)≤(x0.length:Int)∧((72:Nat):Int)*(x0.length:Int)≤281474976710656∧(x0.length:Int)≤4611686018427387904 then if x0.length≤9223372036854775807 then(gG x0 0 (List.replicate (x0.length:Int).toNat (GTask.mk ByteArray.empty ByteArray.empty 0 false ([]:List ByteArray)))).bind fun y=>match y with
   | .x0 a=>(some (a))else none else none
theorem Lz {q0:Kd}(x0:List GTask):Ans (vr x0) (fun r=>Does E 90 [.one (.s .far () 5 (x0.map (GTask.t q0)))] [(false,[.s .own () 5 (r.map (GTask.t .own))])]):=by
 unfold vr;refine TY (fun d => ?_);refine TY (fun b => ?_);refine TX (fun y c => ?_);replace c:=Jj (q0:=q0) x0 x0 0 (List.replicate (x0.length:Int).toNat (GTask.mk ByteArray.empty ByteArray.empty 0 false ([]:List ByteArray))) rfl b y c;cases y with
 |x0 a =>have e:=c;exact TT (DP Tryz.f90 [T8 (x0.length:Int),.rows ((List.replicate (x0.length:Int).toNat (GTask.mk ByteArray.empty ByteArray.empty 0 false ([]:List ByteArray))).map (GTask.t .own)),.lp (.exit 0) (qA q0 a)] (ALn x0 (GTask.t q0)<|AC d<|AC (p:=List.replicate (x0.length:Int).toNat [tS ByteArray.empty,tS ByteArray.empty,tI 0,tB false,.s .own () 1 (([]:List ByteArray).map etS)]=(List.replicate (x0.length:Int).toNat (GTask.mk ByteArray.empty ByteArray.empty 0 false ([]:List ByteArray))).map (GTask.t .own)) (nE rfl)<|AL e<|AN))
def lq (l:List GTask):List GTask:=l
theorem yS:∀(rest:List GTask)(i:Nat)(v:List GTask),(∀y∈rest,ac.sm y)→v.length=i+rest.length→gG rest i v=some (.x0 (v.take i++rest))
 |[],i,v,_,hv=>by unfold gG;rw[VG (by simp at hv;omega)];simp
 |x::rest,i,v,h,hv=>by
  have a:=h x (by simp);have hi:i<v.length:=by simp at hv;omega
  unfold gG;rw[ct,Ug hi,Ua];try rw[Ub a]
  rw[Vz,yS rest (i+1) _ (fun y b=>h y (by simp[b])) (by simp at hv ⊢;omega),tg hi];simp[d9]
theorem KD {q0:Kd}(x0:List GTask)(h:ac.sm x0):Does E 90 [.one (.s .far () 5 (x0.map (GTask.t q0)))] [(false,[.s .own () 5 ((lq x0).map (GTask.t .own))])]:=by exact Lz x0 _ (by unfold vr;rw[Ub (wk 72 (by decide) h.1 rfl),Ub (bI h),yS x0 0 _ h.2 (by simp)];simp[lq])
noncomputable def zJ (x0:LDag):Option (GDag):=if ac.sm x0.f5 then some ((GDag.mk x0.f0 x0.f1 x0.f2 x0.f3 x0.f4 (lq x0.f5)))else none
theorem PA {q0:Kd}(x0:LDag):Ans (zJ x0) (fun r=>Does E 63 [.agg (LDag.t .far q0 x0)] [(true,GDag.t .own .own r)]):=by unfold zJ;refine TY (fun a => ?_);exact TT (DP Tryz.f63 [.ret [(false,[.s .own () 5 ((lq x0.f5).map (GTask.t .own))])]] (AV (ψ:=fun k=>E.C k 90 [.one (.s .far () 5 (x0.f5.map (GTask.t q0)))]=some [(false,[.s .own () 5 ((lq x0.f5).map (GTask.t .own))])]) (KD x0.f5 a)<|AN))
def oN (x:LDag):GDag:=⟨x.f0,x.f1,x.f2,x.f3,x.f4,lq x.f5⟩
theorem Ot {x:LDag}(h:ac.sm x):ac.sm (oN x):=by obtain⟨w0,a,b⟩:=h;exact⟨w0,a,b⟩
theorem OH {q0:Kd}(x0:LDag)(h:ac.sm x0):Does E 63 [.agg (LDag.t .far q0 x0)] [(true,GDag.t .own .own (oN x0))]:=by
 obtain⟨w0,a,b⟩:=h;exact PA x0 _ (by
  unfold zJ;repeat rw[Ub (by assumption)]
  rfl)
noncomputable def xk (x0:LPlan):Option (GPlan):=if ac.sm x0.f0 then some ((GPlan.mk (oN x0.f0) x0.f1 x0.f2 x0.f3))else none
theorem NU {q0:Kd}(x0:LPlan):Ans (xk x0) (fun r=>Does E 41 [.agg (LPlan.t .far q0 x0)] [(true,GPlan.t .own .own r)]):=by unfold xk;refine TY (fun a => ?_);exact TT (DP Tryz.f41 [.ret [(true,GDag.t .own .own (oN x0.f0))]] (AV (ψ:=fun k=>E.C k 63 [.agg (LDag.t .far q0 x0.f0)]=some [(true,GDag.t .own .own (oN x0.f0))]) (OH x0.f0 a)<|AN))
def ca (x:LPlan):GPlan:=⟨oN x.f0,x.f1,x.f2,x.f3⟩
theorem Mb {x:LPlan}(h:ac.sm x):ac.sm (ca x):=by have w0:ac.sm x.f0:=h;exact(Ot w0)
theorem MV {q0:Kd}(x0:LPlan)(h:ac.sm x0):Does E 41 [.agg (LPlan.t .far q0 x0)] [(true,GPlan.t .own .own (ca x0))]:=by
 have w0:ac.sm x0.f0:=h;exact NU x0 _ (by
  unfold xk;repeat rw[Ub (by assumption)]
  rfl)
inductive zL where|x0 (v3:List GPlan)
def pK (q0:Kd)(v0:List LPlan)(v3:List GPlan)(v4:Int):US:=stL 23 [(0,.one (.s .far () 9 (v0.map (LPlan.t q0 q0)))),(3,.one (.s .own () 9 (v3.map (GPlan.t .own .own)))),(4,T5 v4)]
def qy (q0:Kd)(a:List GPlan):US:=stL 23 [(3,.one (.s .own () 9 (a.map (GPlan.t .own .own))))]
abbrev zK:US→Exit→US→Prop:=Round E 18 (am Tryz.f18 0)
def Jh {q0:Kd}(v0:List LPlan)(v3:List GPlan)(v4:Int):zL→Prop| .x0 a=>Loops E 18 (am Tryz.f18 0) (pK q0 v0 v3 v4) (.exit 0) (qy q0 a)
noncomputable def gF  : List LPlan→Nat→(List GPlan)→Option zL|[],i,v3=>some (.x0 v3)|hd::rest,i,v3=>if ac.sm hd then(ak v3 (i:Int)).bind fun g1=>gF rest (i+1) (v3.set (i:Int).toNat (ca hd))else none
theorem Jg {q0:Kd}(v0:List LPlan)(rest:List LPlan):∀(i:Nat)(v3:List GPlan),(v0).drop i=rest→v0.length≤9223372036854775807→Ans (gF rest i v3) (Jh (q0:=q0) v0 v3 (i:Int)):=by
 induction rest with
 |nil =>intro i v3 a b;have hb:=aI a;unfold gF;exact TT (TV (show zK (pK q0 v0 v3 (i:Int)) (.exit 0) (qy q0 v3)from RP [T8 (v0.length:Int),.b false] (ALn v0 (LPlan.t q0 q0)<|AC hb<|AN)) (by intro h;cases h))
 |cons hd rest d =>intro i v3 a b;have hb:=aC a;have e:=aD a b;have c:=aq a;have f:=aB a;unfold gF;refine TY (fun g => ?_);refine TX (fun g1 j => ?_);exact(d (i+1) (v3.set (i:Int).toNat (ca hd)) c b).mono fun y l=>by have r:zK (pK q0 v0 v3 (i:Int)) .normal (pK q0 v0 (v3.set (i:Int).toNat (ca hd)) (inc (i:Int))):=RP [T8 (v0.length:Int),.b true,.row ((LPlan.t q0 q0) hd),.ret [(true,GPlan.t .own .own (ca hd))],.row ((GPlan.t .own .own) g1),.rows ((v3.set (i:Int).toNat (ca hd)).map (GPlan.t .own .own))] (ALn v0 (LPlan.t q0 q0)<|AC hb<|AR (LPlan.t q0 q0) f<|AV (ψ:=fun k=>E.C k 41 [.agg (LPlan.t .far q0 hd)]=some [(true,GPlan.t .own .own (ca hd))]) (MV hd g)<|AG (GPlan.t .own .own) j<|AC (p:=(v3.map (GPlan.t .own .own)).set (0+(i:Int).toNat) (aA ((GPlan.t .own .own) g1) 0 [tS (((ca hd).f0).f0),tS (((ca hd).f0).f1),tI (((ca hd).f0).f2),tI (((ca hd).f0).f3),tB (((ca hd).f0).f4),.s .own () 5 ((((ca hd).f0).f5).map (GTask.t .own)),tB ((ca hd).f1),tI ((ca hd).f2),tI ((ca hd).f3)])=(v3.set (i:Int).toNat (ca hd)).map (GPlan.t .own .own)) (gN (by rfl))<|AN);rw[e]at r;cases y<;>exact TU r l
noncomputable def vp (x0:List LPlan):Option ((List GPlan)):=
  if 0≤(x0.length:Int)∧(x0.length:Int)≤(x0.length:Int)∧((104:Nat):Int)*(x0.length:Int)≤281474976710656∧(x0.length:Int)≤4611686018427387904 then if x0.length≤9223372036854775807 then(gF x0 0 (List.replicate (x0.length:Int).toNat (GPlan.mk (GDag.mk ByteArray.empty ByteArray.empty 0 0 false ([]:List GTask)) false 0 0))).bind fun y=>match y with
   | .x0 a=>(some (a))else none else none
theorem Lv {q0:Kd}(x0:List LPlan):Ans (vp x0) (fun r=>Does E 18 [.one (.s .far () 9 (x0.map (LPlan.t q0 q0)))] [(false,[.s .own () 9 (r.map (GPlan.t .own .own))])]):=by
 unfold vp;refine TY (fun d => ?_);refine TY (fun b => ?_);refine TX (fun y c => ?_);replace c:=Jg (q0:=q0) x0 x0 0 (List.replicate (x0.length:Int).toNat (GPlan.mk (GDag.mk ByteArray.empty ByteArray.empty 0 0 false ([]:List GTask)) false 0 0)) rfl b y c;cases y with
 |x0 a =>have e:=c;exact TT (DP Tryz.f18 [T8 (x0.length:Int),.rows ((List.replicate (x0.length:Int).toNat (GPlan.mk (GDag.mk ByteArray.empty ByteArray.empty 0 0 false ([]:List GTask)) false 0 0)).map (GPlan.t .own .own)),.lp (.exit 0) (qy q0 a)] (ALn x0 (LPlan.t q0 q0)<|AC d<|AC (p:=List.replicate (x0.length:Int).toNat [tS ByteArray.empty,tS ByteArray.empty,tI 0,tI 0,tB false,.s .own () 5 (([]:List GTask).map (GTask.t .own)),tB false,tI 0,tI (0:Int)]=(List.replicate (x0.length:Int).toNat (GPlan.mk (GDag.mk ByteArray.empty ByteArray.empty 0 0 false ([]:List GTask)) false 0 0)).map (GPlan.t .own .own)) (nE rfl)<|AL e<|AN))
def iG (l:List LPlan):List GPlan:=l.map ca
theorem yR:∀(rest:List LPlan)(i:Nat)(v:List GPlan),(∀y∈rest,ac.sm y)→v.length=i+rest.length→gF rest i v=some (.x0 (v.take i++rest.map ca))
 |[],i,v,_,hv=>by unfold gF;rw[VG (by simp at hv;omega)];simp
 |x::rest,i,v,h,hv=>by
  have a:=h x (by simp);have hi:i<v.length:=by simp at hv;omega
  unfold gF;rw[ct,Ug hi,Ua];try rw[Ub a]
  rw[Vz,yR rest (i+1) _ (fun y b=>h y (by simp[b])) (by simp at hv ⊢;omega),tg hi];simp
theorem Kf {l:List LPlan}(h:ac.sm l):ac.sm (iG l):=⟨by unfold iG;rw[UH];exact h.1,fun y a=>by obtain⟨x,b,rfl⟩:=Uw.1 a;exact Mb (h.2 x b)⟩
theorem KB {q0:Kd}(x0:List LPlan)(h:ac.sm x0):Does E 18 [.one (.s .far () 9 (x0.map (LPlan.t q0 q0)))] [(false,[.s .own () 9 ((iG x0).map (GPlan.t .own .own))])]:=by exact Lv x0 _ (by unfold vp;rw[Ub (wk 104 (by decide) h.1 rfl),Ub (bI h),yR x0 0 _ h.2 (by simp)];simp[iG])
noncomputable def xm (x0:GSpan):Option (GSpan):=some (x0)
theorem NW (x0:GSpan):Ans (xm x0) (fun r=>Does E 64 [.agg (GSpan.t x0)] [(true,GSpan.t r)]):=by unfold xm;exact TT (DP Tryz.f64 [] AN)
def sS (x:GSpan):GSpan:=x
theorem MX (x0:GSpan)(h:ac.sm x0):Does E 64 [.agg (GSpan.t x0)] [(true,GSpan.t (sS x0))]:=by
 skip
 exact NW x0 _ (by
  unfold xm;repeat rw[Ub (by assumption)]
  rfl)
noncomputable def vq (x0:GState):Option (GState):=some (x0)
theorem Ly (x0:GState):Ans (vq x0) (fun r=>Does E 91 [.agg (GState.t x0)] [(true,GState.t r)]):=by unfold vq;exact TT (DP Tryz.f91 [] AN)
def dY (x:GState):GState:=x
theorem KC (x0:GState)(h:ac.sm x0):Does E 91 [.agg (GState.t x0)] [(true,GState.t (dY x0))]:=by
 skip
 exact Ly x0 _ (by
  unfold vq;repeat rw[Ub (by assumption)]
  rfl)
inductive x8 where|x0 (v3:List GState)
def nP (v0 v3:List GState)(v4:Int):US:=stL 23 [(0,.one (.s .far () 4 (v0.map GState.t))),(3,.one (.s .own () 4 (v3.map GState.t))),(4,T5 v4)]
def pL (a:List GState):US:=stL 23 [(3,.one (.s .own () 4 (a.map GState.t)))]
abbrev x7:US→Exit→US→Prop:=Round E 65 (am Tryz.f65 0)
def GP (v0 v3:List GState)(v4:Int):x8→Prop| .x0 a=>Loops E 65 (am Tryz.f65 0) (nP v0 v3 v4) (.exit 0) (pL a)
noncomputable def fN  : List GState→Nat→(List GState)→Option x8|[],i,v3=>some (.x0 v3)|hd::rest,i,v3=>if ac.sm hd then(ak v3 (i:Int)).bind fun g1=>fN rest (i+1) (v3.set (i:Int).toNat (dY hd))else none
theorem GO (v0:List GState)(rest:List GState):∀(i:Nat)(v3:List GState),(v0).drop i=rest→v0.length≤9223372036854775807→Ans (fN rest i v3) (GP v0 v3 (i:Int)):=by
 induction rest with
 |nil =>intro i v3 a b;have hb:=aI a;unfold fN;exact TT (TV (show x7 (nP v0 v3 (i:Int)) (.exit 0) (pL v3)from RP [T8 (v0.length:Int),.b false] (ALn v0 GState.t<|AC hb<|AN)) (by intro h;cases h))
 |cons hd rest d =>intro i v3 a b;have hb:=aC a;have e:=aD a b;have c:=aq a;have f:=aB a;unfold fN;refine TY (fun g => ?_);refine TX (fun g1 j => ?_);exact(d (i+1) (v3.set (i:Int).toNat (dY hd)) c b).mono fun y k=>by have r:x7 (nP v0 v3 (i:Int)) .normal (nP v0 (v3.set (i:Int).toNat (dY hd)) (inc (i:Int))):=RP [T8 (v0.length:Int),.b true,.row (GState.t hd),.ret [(true,GState.t (dY hd))],.row (GState.t g1),.rows ((v3.set (i:Int).toNat (dY hd)).map GState.t)] (ALn v0 GState.t<|AC hb<|AR GState.t f<|AD (KC hd g)<|AG GState.t j<|AC (p:=(v3.map GState.t).set (0+(i:Int).toNat) (aA (GState.t g1) 0 [tI ((dY hd).f0),tI ((dY hd).f1),tI ((dY hd).f2),tI ((dY hd).f3)])=(v3.set (i:Int).toNat (dY hd)).map GState.t) (gN (by rfl))<|AN);rw[e]at r;cases y<;>exact TU r k
noncomputable def tQ (x0:List GState):Option ((List GState)):=
  if 0≤(x0.length:Int)∧(x0.length:Int)≤(x0.length:Int)∧((32:Nat):Int)*(x0.length:Int)≤281474976710656∧(x0.length:Int)≤4611686018427387904 then if x0.length≤9223372036854775807 then(fN x0 0 (List.replicate (x0.length:Int).toNat (GState.mk 0 0 0 0))).bind fun y=>match y with
   | .x0 a=>(some (a))else none else none
theorem Ji (x0:List GState):Ans (tQ x0) (fun r=>Does E 65 [.one (.s .far () 4 (x0.map GState.t))] [(false,[.s .own () 4 (r.map GState.t)])]):=by
 unfold tQ;refine TY (fun d => ?_);refine TY (fun b => ?_);refine TX (fun y c => ?_);replace c:=GO x0 x0 0 (List.replicate (x0.length:Int).toNat (GState.mk 0 0 0 0)) rfl b y c;cases y with
 |x0 a =>have e:=c;exact TT (DP Tryz.f65 [T8 (x0.length:Int),.rows ((List.replicate (x0.length:Int).toNat (GState.mk 0 0 0 0)).map GState.t),.lp (.exit 0) (pL a)] (ALn x0 GState.t<|AC d<|AC (p:=List.replicate (x0.length:Int).toNat [tI 0,tI 0,tI 0,tI (0:Int)]=(List.replicate (x0.length:Int).toNat (GState.mk 0 0 0 0)).map GState.t) (nE rfl)<|AL e<|AN))
def mf (l:List GState):List GState:=l
theorem xN:∀(rest:List GState)(i:Nat)(v:List GState),(∀y∈rest,ac.sm y)→v.length=i+rest.length→fN rest i v=some (.x0 (v.take i++rest))
 |[],i,v,_,hv=>by unfold fN;rw[VG (by simp at hv;omega)];simp
 |x::rest,i,v,h,hv=>by
  have a:=h x (by simp);have hi:i<v.length:=by simp at hv;omega
  unfold fN;rw[ct,Ug hi,Ua];try rw[Ub a]
  rw[Vz,xN rest (i+1) _ (fun y b=>h y (by simp[b])) (by simp at hv ⊢;omega),tg hi];simp[dY]
theorem HS (x0:List GState)(h:ac.sm x0):Does E 65 [.one (.s .far () 4 (x0.map GState.t))] [(false,[.s .own () 4 ((mf x0).map GState.t)])]:=by exact Ji x0 _ (by unfold tQ;rw[Ub (wk 32 (by decide) h.1 rfl),Ub (bI h),xN x0 0 _ h.2 (by simp)];simp[mf])
noncomputable def zM (x0:LRun):Option (GRun):=if ac.sm x0.f1 then if ac.sm x0.f3 then some ((GRun.mk x0.f0 (sS x0.f1) x0.f2 (mf x0.f3)))else none else none
theorem PB (x0:LRun):Ans (zM x0) (fun r=>Does E 42 [.agg (LRun.t .far x0)] [(true,GRun.t .own r)]):=by unfold zM;refine TY (fun a => ?_);refine TY (fun b => ?_);exact TT (DP Tryz.f42 [.ret [(true,GSpan.t (sS x0.f1))],.ret [(false,[.s .own () 4 ((mf x0.f3).map GState.t)])]] (AD (MX x0.f1 a)<|AD (HS x0.f3 b)<|AN))
def dR (x:LRun):GRun:=⟨x.f0,sS x.f1,x.f2,mf x.f3⟩
theorem Ou {x:LRun}(h:ac.sm x):ac.sm (dR x):=by obtain⟨w0,a,b⟩:=h;exact⟨w0,a,b⟩
theorem OI (x0:LRun)(h:ac.sm x0):Does E 42 [.agg (LRun.t .far x0)] [(true,GRun.t .own (dR x0))]:=by
 obtain⟨w0,a,b⟩:=h;exact PB x0 _ (by
  unfold zM;repeat rw[Ub (by assumption)]
  rfl)
inductive Bh where|x0 (v3:List GRun)
def rc (q0:Kd)(v0:List LRun)(v3:List GRun)(v4:Int):US:=stL 23 [(0,.one (.s .far () 5 (v0.map (LRun.t q0)))),(3,.one (.s .own () 5 (v3.map (GRun.t .own)))),(4,T5 v4)]
def sa (q0:Kd)(a:List GRun):US:=stL 23 [(3,.one (.s .own () 5 (a.map (GRun.t .own))))]
abbrev Bg:US→Exit→US→Prop:=Round E 19 (am Tryz.f19 0)
def Lx {q0:Kd}(v0:List LRun)(v3:List GRun)(v4:Int):Bh→Prop| .x0 a=>Loops E 19 (am Tryz.f19 0) (rc q0 v0 v3 v4) (.exit 0) (sa q0 a)
noncomputable def iD  : List LRun→Nat→(List GRun)→Option Bh|[],i,v3=>some (.x0 v3)|hd::rest,i,v3=>if ac.sm hd then(ak v3 (i:Int)).bind fun g1=>iD rest (i+1) (v3.set (i:Int).toNat (dR hd))else none
theorem Lw {q0:Kd}(v0:List LRun)(rest:List LRun):∀(i:Nat)(v3:List GRun),(v0).drop i=rest→v0.length≤9223372036854775807→Ans (iD rest i v3) (Lx (q0:=q0) v0 v3 (i:Int)):=by
 induction rest with
 |nil =>intro i v3 a b;have hb:=aI a;unfold iD;exact TT (TV (show Bg (rc q0 v0 v3 (i:Int)) (.exit 0) (sa q0 v3)from RP [T8 (v0.length:Int),.b false] (ALn v0 (LRun.t q0)<|AC hb<|AN)) (by intro h;cases h))
 |cons hd rest d =>intro i v3 a b;have hb:=aC a;have e:=aD a b;have c:=aq a;have f:=aB a;unfold iD;refine TY (fun g => ?_);refine TX (fun g1 j => ?_);exact(d (i+1) (v3.set (i:Int).toNat (dR hd)) c b).mono fun y k=>by have r:Bg (rc q0 v0 v3 (i:Int)) .normal (rc q0 v0 (v3.set (i:Int).toNat (dR hd)) (inc (i:Int))):=RP [T8 (v0.length:Int),.b true,.row ((LRun.t q0) hd),.ret [(true,GRun.t .own (dR hd))],.row ((GRun.t .own) g1),.rows ((v3.set (i:Int).toNat (dR hd)).map (GRun.t .own))] (ALn v0 (LRun.t q0)<|AC hb<|AR (LRun.t q0) f<|AD (OI hd g)<|AG (GRun.t .own) j<|AC (p:=(v3.map (GRun.t .own)).set (0+(i:Int).toNat) (aA ((GRun.t .own) g1) 0 [tS ((dR hd).f0),tI (((dR hd).f1).f0),tI (((dR hd).f1).f1),tI ((dR hd).f2),.s .own () 4 (((dR hd).f3).map GState.t)])=(v3.set (i:Int).toNat (dR hd)).map (GRun.t .own)) (gN (by rfl))<|AN);rw[e]at r;cases y<;>exact TU r k
noncomputable def xl (x0:List LRun):Option ((List GRun)):=
  if 0≤(x0.length:Int)∧(x0.length:Int)≤(x0.length:Int)∧((64:Nat):Int)*(x0.length:Int)≤281474976710656∧(x0.length:Int)≤4611686018427387904 then if x0.length≤9223372036854775807 then(iD x0 0 (List.replicate (x0.length:Int).toNat (GRun.mk ByteArray.empty (GSpan.mk 0 0) 0 ([]:List GState)))).bind fun y=>match y with
   | .x0 a=>(some (a))else none else none
theorem NV {q0:Kd}(x0:List LRun):Ans (xl x0) (fun r=>Does E 19 [.one (.s .far () 5 (x0.map (LRun.t q0)))] [(false,[.s .own () 5 (r.map (GRun.t .own))])]):=by
 unfold xl;refine TY (fun d => ?_);refine TY (fun b => ?_);refine TX (fun y c => ?_);replace c:=Lw (q0:=q0) x0 x0 0 (List.replicate (x0.length:Int).toNat (GRun.mk ByteArray.empty (GSpan.mk 0 0) 0 ([]:List GState))) rfl b y c;cases y with
 |x0 a =>have e:=c;exact TT (DP Tryz.f19 [T8 (x0.length:Int),.rows ((List.replicate (x0.length:Int).toNat (GRun.mk ByteArray.empty (GSpan.mk 0 0) 0 ([]:List GState))).map (GRun.t .own)),.lp (.exit 0) (sa q0 a)] (ALn x0 (LRun.t q0)<|AC d<|AC (p:=List.replicate (x0.length:Int).toNat [tS ByteArray.empty,tI 0,tI 0,tI 0,.s .own () 4 (([]:List GState).map GState.t)]=(List.replicate (x0.length:Int).toNat (GRun.mk ByteArray.empty (GSpan.mk 0 0) 0 ([]:List GState))).map (GRun.t .own)) (nE rfl)<|AL e<|AN))
def jL (l:List LRun):List GRun:=l.map dR
theorem AY:∀(rest:List LRun)(i:Nat)(v:List GRun),(∀y∈rest,ac.sm y)→v.length=i+rest.length→iD rest i v=some (.x0 (v.take i++rest.map dR))
 |[],i,v,_,hv=>by unfold iD;rw[VG (by simp at hv;omega)];simp
 |x::rest,i,v,h,hv=>by
  have a:=h x (by simp);have hi:i<v.length:=by simp at hv;omega
  unfold iD;rw[ct,Ug hi,Ua];try rw[Ub a]
  rw[Vz,AY rest (i+1) _ (fun y b=>h y (by simp[b])) (by simp at hv ⊢;omega),tg hi];simp
theorem Mc {l:List LRun}(h:ac.sm l):ac.sm (jL l):=⟨by unfold jL;rw[UH];exact h.1,fun y a=>by obtain⟨x,b,rfl⟩:=Uw.1 a;exact Ou (h.2 x b)⟩
theorem MW {q0:Kd}(x0:List LRun)(h:ac.sm x0):Does E 19 [.one (.s .far () 5 (x0.map (LRun.t q0)))] [(false,[.s .own () 5 ((jL x0).map (GRun.t .own))])]:=by exact NV x0 _ (by unfold xl;rw[Ub (wk 64 (by decide) h.1 rfl),Ub (bI h),AY x0 0 _ h.2 (by simp)];simp[jL])
noncomputable def vo (x0:LBoard):Option (GBoard):=if ac.sm x0.f0 then if ac.sm x0.f1 then if ac.sm x0.f2 then some ((GBoard.mk (km x0.f0) (iG x0.f1) (jL x0.f2) x0.f3 x0.f4))else none else none else none
theorem Lu {q0:Kd}(x0:LBoard):Ans (vo x0) (fun r=>Does E 6 [.agg (LBoard.t .far q0 x0)] [(true,GBoard.t .own .own r)]):=by unfold vo;refine TY (fun a => ?_);refine TY (fun b => ?_);refine TY (fun c => ?_);exact TT (DP Tryz.f6 [.ret [(false,[.s .own () 3 ((km x0.f0).map GSession.t)])],.ret [(false,[.s .own () 9 ((iG x0.f1).map (GPlan.t .own .own))])],.ret [(false,[.s .own () 5 ((jL x0.f2).map (GRun.t .own))])]] (AD (D7 x0.f0 a)<|AV (ψ:=fun k=>E.C k 18 [.one (.s .far () 9 (x0.f1.map (LPlan.t q0 q0)))]=some [(false,[.s .own () 9 ((iG x0.f1).map (GPlan.t .own .own))])]) (KB x0.f1 b)<|AV (ψ:=fun k=>E.C k 19 [.one (.s .far () 5 (x0.f2.map (LRun.t q0)))]=some [(false,[.s .own () 5 ((jL x0.f2).map (GRun.t .own))])]) (MW x0.f2 c)<|AN))
def av (x:LBoard):GBoard:=⟨km x.f0,iG x.f1,jL x.f2,x.f3,x.f4⟩
theorem Ke {x:LBoard}(h:ac.sm x):ac.sm (av x):=by obtain⟨w0,a,b⟩:=h;exact⟨w0,(Kf a),(Mc b)⟩
theorem iv {q0:Kd}(x0:LBoard)(h:ac.sm x0):Does E 6 [.agg (LBoard.t .far q0 x0)] [(true,GBoard.t .own .own (av x0))]:=by
 obtain⟨w0,a,b⟩:=h;exact Lu x0 _ (by
  unfold vo;repeat rw[Ub (by assumption)]
  rfl)
noncomputable def r6 (x0 a:GSession):Option (Bool):=cond (x0.f0 != a.f0) (some (false)) (cond (x0.f1 != a.f1) (some (false)) (cond (!(x0.f2.toList==a.f2.toList)) (some (false)) (some (true))))
theorem GH (x0 c:GSession):Ans (r6 x0 c) (fun r=>Does E 51 [.agg (GSession.t x0),.agg (GSession.t c)] [T3 r]):=by
 unfold r6;apply TW<;>intro a
 ·exact TT (DP Tryz.f51 [.b true] (AC a<|AN))
 ·apply TW<;>intro b
  ·exact TT (DP Tryz.f51 [.b false,.b true] (AC a<|AC b<|AN))
  ·apply TW<;>intro d
   ·exact TT (DP Tryz.f51 [.b false,.b false,.b true] (AC a<|AC b<|AC d<|AN))
   ·exact TT (DP Tryz.f51 [.b false,.b false,.b false] (AC a<|AC b<|AC d<|AN))
theorem xH (x0:GSession)(a:GSession)(e:x0=a)(h:ac.sm x0):Does E 51 [.agg (GSession.t x0),.agg (GSession.t a)] [T3 (yes x0 a)]:=by subst e;have b:ac.sm x0.f2:=h;exact GH x0 x0 _ (by unfold r6;simp only[UP,yes,Vc,Wl,Vg,Uu,Uo])
inductive uI where|ret (v4:Bool)|x0
def gZ (v0 v1:List GSession)(v5:Int):US:=stL 27 [(0,.one (.s .far () 3 (v0.map GSession.t))),(1,.one (.s .far () 3 (v1.map GSession.t))),(5,T5 v5)]
def mc (a:Bool):US:=stL 27 [(4,T6 a)]
def ne  : US:=stL 27 []
abbrev pE:US→Exit→US→Prop:=Round E 28 (am Tryz.f28 0)
def Dd (v0 v1:List GSession)(v5:Int):uI→Prop| .ret a=>Loops E 28 (am Tryz.f28 0) (gZ v0 v1 v5) .ret (mc a)| .x0=>Loops E 28 (am Tryz.f28 0) (gZ v0 v1 v5) (.exit 0) (ne)
noncomputable def fy (v1:List GSession):List GSession→Nat→Option uI|[],i=>some (.x0)|hd::rest,i=>(ak v1 (i:Int)).bind fun g1=>if hd=g1 then if ac.sm hd then cond (yes hd g1) (fy v1 rest (i+1)) (some (.ret false))else none else none
theorem Db (v0 v1:List GSession)(rest:List GSession):∀(i:Nat) ,(v0).drop i=rest→v0.length≤9223372036854775807→Ans (fy v1 rest i) (Dd v0 v1 (i:Int)):=by
 induction rest with
 |nil =>intro i a b;have hb:=aI a;unfold fy;exact TT (TV (show pE (gZ v0 v1 (i:Int)) (.exit 0) (ne)from RP [T8 (v0.length:Int),.b false] (ALn v0 GSession.t<|AC hb<|AN)) (by intro h;cases h))
 |cons hd rest k =>
  intro i a b;have hb:=aC a;have l:=aD a b;have c:=aq a;have d:=aB a;unfold fy;refine TX (fun g1 e => ?_);refine TY (fun f => ?_);refine TY (fun g => ?_);apply TW<;>intro j
  ·exact(k (i+1) c b).mono fun y m=>by have r:pE (gZ v0 v1 (i:Int)) .normal (gZ v0 v1 (inc (i:Int))):=RP [T8 (v0.length:Int),.b true,.row (GSession.t hd),.row (GSession.t g1),rT] (ALn v0 GSession.t<|AC hb<|AR GSession.t d<|AR GSession.t e<|AD (T1 (xH hd g1 f g) j)<|AN);rw[l]at r;cases y<;>exact TU r m
  ·exact TT (TV (show pE (gZ v0 v1 (i:Int)) .ret (mc false)from RP [T8 (v0.length:Int),.b true,.row (GSession.t hd),.row (GSession.t g1),rF] (ALn v0 GSession.t<|AC hb<|AR GSession.t d<|AR GSession.t e<|AD (T1 (xH hd g1 f g) j)<|AN)) (by intro h;cases h))
noncomputable def qp (x0 b:List GSession):Option (Bool):=
  cond ((x0.length:Int) != (b.length:Int))
   (some (false))
   (if x0.length≤9223372036854775807 then(fy b x0 0).bind fun y=>match y with
    | .ret a=>(some (a))
    | .x0=>(some (true))else none)
theorem Er (x0 a:List GSession):Ans (qp x0 a) (fun r=>Does E 28 [.one (.s .far () 3 (x0.map GSession.t)),.one (.s .far () 3 (a.map GSession.t))] [T3 r]):=by
 unfold qp;apply TW<;>intro d
 ·exact TT (DP Tryz.f28 [T8 (x0.length:Int),T8 (a.length:Int),.b true] (ALn x0 GSession.t<|ALn a GSession.t<|AC d<|AN))
 ·refine TY (fun e => ?_);refine TX (fun y c => ?_);replace c:=Db x0 a x0 0 rfl e y c;cases y with
  |ret b =>have f:=c;exact TT (DP Tryz.f28 [T8 (x0.length:Int),T8 (a.length:Int),.b false,.lp .ret (mc b)] (ALn x0 GSession.t<|ALn a GSession.t<|AC d<|AL f<|AN))
  |x0 =>have f:=c;exact TT (DP Tryz.f28 [T8 (x0.length:Int),T8 (a.length:Int),.b false,.lp (.exit 0) (ne)] (ALn x0 GSession.t<|ALn a GSession.t<|AC d<|AL f<|AN))
theorem uw (l:List GSession):∀(rest:List GSession)(i:Nat),l.drop i=rest→(∀y∈rest,ac.sm y)→fy l rest i=some .x0
 |[],i,_,_=>rfl
 |x::rest,i,a,h=>by have b:=h x (by simp);unfold fy;rw[aB a,Ua];simp only[b,UP,yes,Vc,Wl,Vg,Uu,Uo];exact uw l rest (i+1) (aq a) (fun y c=>h y (by simp[c]))
theorem iL (x0:List GSession)(a:List GSession)(e:x0=a)(h:ac.sm x0):Does E 28 [.one (.s .far () 3 (x0.map GSession.t)),.one (.s .far () 3 (a.map GSession.t))] [T3 (yes x0 a)]:=by subst e;exact Er x0 x0 _ (by unfold qp;rw[Ub (bI h),uw x0 x0 0 rfl h.2];simp[yes])
inductive wg where|ret (v4:Bool)|x0
def iQ (v0 v1:List ByteArray)(v5:Int):US:=stL 26 [(0,.one (.s .far () 1 (v0.map etS))),(1,.one (.s .far () 1 (v1.map etS))),(5,T5 v5)]
def nf (a:Bool):US:=stL 26 [(4,T6 a)]
def om  : US:=stL 26 []
abbrev qq:US→Exit→US→Prop:=Round E 134 (am Tryz.f134 0)
def Et (v0 v1:List ByteArray)(v5:Int):wg→Prop| .ret a=>Loops E 134 (am Tryz.f134 0) (iQ v0 v1 v5) .ret (nf a)| .x0=>Loops E 134 (am Tryz.f134 0) (iQ v0 v1 v5) (.exit 0) (om)
noncomputable def ge (v1:List ByteArray):List ByteArray→Nat→Option wg|[],i=>some (.x0)|hd::rest,i=>(ak v1 (i:Int)).bind fun g1=>cond (!(hd.toList==g1.toList)) (some (.ret false)) (ge v1 rest (i+1))
theorem Es (v0 v1:List ByteArray)(rest:List ByteArray):∀(i:Nat) ,(v0).drop i=rest→v0.length≤9223372036854775807→Ans (ge v1 rest i) (Et v0 v1 (i:Int)):=by
 induction rest with
 |nil =>intro i a b;have hb:=aI a;unfold ge;exact TT (TV (show qq (iQ v0 v1 (i:Int)) (.exit 0) (om)from RP [T8 (v0.length:Int),.b false] (ALn v0 etS<|AC hb<|AN)) (by intro h;cases h))
 |cons hd rest g =>
  intro i a b;have hb:=aC a;have j:=aD a b;have c:=aq a;have d:=aB a;unfold ge;refine TX (fun g1 e => ?_);apply TW<;>intro f
  ·exact TT (TV (show qq (iQ v0 v1 (i:Int)) .ret (nf false)from RP [T8 (v0.length:Int),.b true,.row (etS hd),.row (etS g1),.b true] (ALn v0 etS<|AC hb<|AR etS d<|AR etS e<|AC f<|AN)) (by intro h;cases h))
  ·exact(g (i+1) c b).mono fun y k=>by have r:qq (iQ v0 v1 (i:Int)) .normal (iQ v0 v1 (inc (i:Int))):=RP [T8 (v0.length:Int),.b true,.row (etS hd),.row (etS g1),.b false] (ALn v0 etS<|AC hb<|AR etS d<|AR etS e<|AC f<|AN);rw[j]at r;cases y<;>exact TU r k
noncomputable def r8 (x0 b:List ByteArray):Option (Bool):=
  cond ((x0.length:Int) != (b.length:Int))
   (some (false))
   (if x0.length≤9223372036854775807 then(ge b x0 0).bind fun y=>match y with
    | .ret a=>(some (a))
    | .x0=>(some (true))else none)
theorem GK (x0 a:List ByteArray):Ans (r8 x0 a) (fun r=>Does E 134 [.one (.s .far () 1 (x0.map etS)),.one (.s .far () 1 (a.map etS))] [T3 r]):=by
 unfold r8;apply TW<;>intro d
 ·exact TT (DP Tryz.f134 [T8 (x0.length:Int),T8 (a.length:Int),.b true] (ALn x0 etS<|ALn a etS<|AC d<|AN))
 ·refine TY (fun e => ?_);refine TX (fun y c => ?_);replace c:=Es x0 a x0 0 rfl e y c;cases y with
  |ret b =>have f:=c;exact TT (DP Tryz.f134 [T8 (x0.length:Int),T8 (a.length:Int),.b false,.lp .ret (nf b)] (ALn x0 etS<|ALn a etS<|AC d<|AL f<|AN))
  |x0 =>have f:=c;exact TT (DP Tryz.f134 [T8 (x0.length:Int),T8 (a.length:Int),.b false,.lp (.exit 0) (om)] (ALn x0 etS<|ALn a etS<|AC d<|AL f<|AN))
theorem vP (l:List ByteArray):∀(rest:List ByteArray)(i:Nat),l.drop i=rest→(∀y∈rest,ac.sm y)→ge l rest i=some .x0
 |[],i,_,_=>rfl
 |x::rest,i,a,h=>by have b:=h x (by simp);unfold ge;rw[aB a,Ua];simp only[b,UP,yes,Vc,Wl,Vg,Uu,Uo];exact vP l rest (i+1) (aq a) (fun y c=>h y (by simp[c]))
theorem xI (x0:List ByteArray)(a:List ByteArray)(e:x0=a)(h:ac.sm x0):Does E 134 [.one (.s .far () 1 (x0.map etS)),.one (.s .far () 1 (a.map etS))] [T3 (yes x0 a)]:=by subst e;exact GK x0 x0 _ (by unfold r8;rw[Ub (bI h),vP x0 x0 0 rfl h.2];simp[yes])
noncomputable def xj (x0 a:GTask):Option (Bool):=cond (!(x0.f0.toList==a.f0.toList)) (some (false)) (cond (!(x0.f1.toList==a.f1.toList)) (some (false)) (cond (x0.f2 != a.f2) (some (false)) (cond (!(x0.f3==a.f3)) (some (false)) (if x0.f4=a.f4 then if ac.sm x0.f4 then cond (yes x0.f4 a.f4) (some (true)) (some (false))else none else none))))
theorem NQ (x0 c:GTask):Ans (xj x0 c) (fun r=>Does E 119 [.agg (GTask.t .far x0),.agg (GTask.t .far c)] [T3 r]):=by
 unfold xj;apply TW<;>intro a
 ·exact TT (DP Tryz.f119 [.b true] (AC a<|AN))
 ·apply TW<;>intro b
  ·exact TT (DP Tryz.f119 [.b false,.b true] (AC a<|AC b<|AN))
  ·apply TW<;>intro d
   ·exact TT (DP Tryz.f119 [.b false,.b false,.b true] (AC a<|AC b<|AC d<|AN))
   ·apply TW<;>intro e
    ·exact TT (DP Tryz.f119 [.b false,.b false,.b false,.b true] (AC a<|AC b<|AC d<|AC e<|AN))
    ·refine TY (fun f => ?_);refine TY (fun g => ?_);apply TW<;>intro h
     ·exact TT (DP Tryz.f119 [.b false,.b false,.b false,.b false,rT] (AC a<|AC b<|AC d<|AC e<|AD (T1 (xI x0.f4 c.f4 f g) h)<|AN))
     ·exact TT (DP Tryz.f119 [.b false,.b false,.b false,.b false,rF] (AC a<|AC b<|AC d<|AC e<|AD (T1 (xI x0.f4 c.f4 f g) h)<|AN))
theorem Cu (x0:GTask)(a:GTask)(e:x0=a)(h:ac.sm x0):Does E 119 [.agg (GTask.t .far x0),.agg (GTask.t .far a)] [T3 (yes x0 a)]:=by subst e;obtain⟨w0,c,b⟩:=h;exact NQ x0 x0 _ (by unfold xj;simp only[b,UP,yes,Vc,Wl,Vg,Uu,Uo])
inductive zG where|ret (v4:Bool)|x0
def kh (q0:Kd)(q1:Kd)(v0 v1:List GTask)(v5:Int):US:=stL 27 [(0,.one (.s .far () 5 (v0.map (GTask.t q0)))),(1,.one (.s .far () 5 (v1.map (GTask.t q1)))),(5,T5 v5)]
def pG (q0:Kd)(q1:Kd)(a:Bool):US:=stL 27 [(4,T6 a)]
def qt (q0:Kd)(q1:Kd)  : US:=stL 27 []
abbrev tN:US→Exit→US→Prop:=Round E 103 (am Tryz.f103 0)
def Ja {q0:Kd}{q1:Kd}(v0 v1:List GTask)(v5:Int):zG→Prop| .ret a=>Loops E 103 (am Tryz.f103 0) (kh q0 q1 v0 v1 v5) .ret (pG q0 q1 a)| .x0=>Loops E 103 (am Tryz.f103 0) (kh q0 q1 v0 v1 v5) (.exit 0) (qt q0 q1)
noncomputable def je (v1:List GTask):List GTask→Nat→Option zG|[],i=>some (.x0)|hd::rest,i=>(ak v1 (i:Int)).bind fun g1=>if hd=g1 then if ac.sm hd then cond (yes hd g1) (je v1 rest (i+1)) (some (.ret false))else none else none
theorem I9 {q0:Kd}{q1:Kd}(v0 v1:List GTask)(rest:List GTask):∀(i:Nat) ,(v0).drop i=rest→v0.length≤9223372036854775807→Ans (je v1 rest i) (Ja (q0:=q0) (q1:=q1) v0 v1 (i:Int)):=by
 induction rest with
 |nil =>intro i a b;have hb:=aI a;unfold je;exact TT (TV (show tN (kh q0 q1 v0 v1 (i:Int)) (.exit 0) (qt q0 q1)from RP [T8 (v0.length:Int),.b false] (ALn v0 (GTask.t q0)<|AC hb<|AN)) (by intro h;cases h))
 |cons hd rest k =>
  intro i a b;have hb:=aC a;have l:=aD a b;have c:=aq a;have d:=aB a;unfold je;refine TX (fun g1 e => ?_);refine TY (fun f => ?_);refine TY (fun g => ?_);apply TW<;>intro j
  ·exact(k (i+1) c b).mono fun y m=>by have r:tN (kh q0 q1 v0 v1 (i:Int)) .normal (kh q0 q1 v0 v1 (inc (i:Int))):=RP [T8 (v0.length:Int),.b true,.row ((GTask.t q0) hd),.row ((GTask.t q1) g1),rT] (ALn v0 (GTask.t q0)<|AC hb<|AR (GTask.t q0) d<|AR (GTask.t q1) e<|AD (T1 (Cu hd g1 f g) j)<|AN);rw[l]at r;cases y<;>exact TU r m
  ·exact TT (TV (show tN (kh q0 q1 v0 v1 (i:Int)) .ret (pG q0 q1 false)from RP [T8 (v0.length:Int),.b true,.row ((GTask.t q0) hd),.row ((GTask.t q1) g1),rF] (ALn v0 (GTask.t q0)<|AC hb<|AR (GTask.t q0) d<|AR (GTask.t q1) e<|AD (T1 (Cu hd g1 f g) j)<|AN)) (by intro h;cases h))
noncomputable def vm (x0 b:List GTask):Option (Bool):=
  cond ((x0.length:Int) != (b.length:Int))
   (some (false))
   (if x0.length≤9223372036854775807 then(je b x0 0).bind fun y=>match y with
    | .ret a=>(some (a))
    | .x0=>(some (true))else none)
theorem Lo {q0:Kd}{q1:Kd}(x0 a:List GTask):Ans (vm x0 a) (fun r=>Does E 103 [.one (.s .far () 5 (x0.map (GTask.t q0))),.one (.s .far () 5 (a.map (GTask.t q1)))] [T3 r]):=by
 unfold vm;apply TW<;>intro d
 ·exact TT (DP Tryz.f103 [T8 (x0.length:Int),T8 (a.length:Int),.b true] (ALn x0 (GTask.t q0)<|ALn a (GTask.t q1)<|AC d<|AN))
 ·refine TY (fun e => ?_);refine TX (fun y c => ?_);replace c:=I9 (q0:=q0) (q1:=q1) x0 a x0 0 rfl e y c;cases y with
  |ret b =>have f:=c;exact TT (DP Tryz.f103 [T8 (x0.length:Int),T8 (a.length:Int),.b false,.lp .ret (pG q0 q1 b)] (ALn x0 (GTask.t q0)<|ALn a (GTask.t q1)<|AC d<|AL f<|AN))
  |x0 =>have f:=c;exact TT (DP Tryz.f103 [T8 (x0.length:Int),T8 (a.length:Int),.b false,.lp (.exit 0) (qt q0 q1)] (ALn x0 (GTask.t q0)<|ALn a (GTask.t q1)<|AC d<|AL f<|AN))
theorem yW (l:List GTask):∀(rest:List GTask)(i:Nat),l.drop i=rest→(∀y∈rest,ac.sm y)→je l rest i=some .x0
 |[],i,_,_=>rfl
 |x::rest,i,a,h=>by have b:=h x (by simp);unfold je;rw[aB a,Ua];simp only[b,UP,yes,Vc,Wl,Vg,Uu,Uo];exact yW l rest (i+1) (aq a) (fun y c=>h y (by simp[c]))
theorem AO {q0:Kd}{q1:Kd}(x0:List GTask)(a:List GTask)(e:x0=a)(h:ac.sm x0):Does E 103 [.one (.s .far () 5 (x0.map (GTask.t q0))),.one (.s .far () 5 (a.map (GTask.t q1)))] [T3 (yes x0 a)]:=by subst e;exact Lo x0 x0 _ (by unfold vm;rw[Ub (bI h),yW x0 x0 0 rfl h.2];simp[yes])
noncomputable def zD (x0 a:GDag):Option (Bool):=cond (!(x0.f0.toList==a.f0.toList)) (some (false)) (cond (!(x0.f1.toList==a.f1.toList)) (some (false)) (cond (x0.f2 != a.f2) (some (false)) (cond (x0.f3 != a.f3) (some (false)) (cond (!(x0.f4==a.f4)) (some (false)) (if x0.f5=a.f5 then if ac.sm x0.f5 then cond (yes x0.f5 a.f5) (some (true)) (some (false))else none else none)))))
theorem Pw {q0:Kd}{q1:Kd}(x0 b:GDag):Ans (zD x0 b) (fun r=>Does E 79 [.agg (GDag.t .far q0 x0),.agg (GDag.t .far q1 b)] [T3 r]):=by
 unfold zD;apply TW<;>intro a
 ·exact TT (DP Tryz.f79 [.b true] (AC a<|AN))
 ·apply TW<;>intro c
  ·exact TT (DP Tryz.f79 [.b false,.b true] (AC a<|AC c<|AN))
  ·apply TW<;>intro d
   ·exact TT (DP Tryz.f79 [.b false,.b false,.b true] (AC a<|AC c<|AC d<|AN))
   ·apply TW<;>intro e
    ·exact TT (DP Tryz.f79 [.b false,.b false,.b false,.b true] (AC a<|AC c<|AC d<|AC e<|AN))
    ·apply TW<;>intro f
     ·exact TT (DP Tryz.f79 [.b false,.b false,.b false,.b false,.b true] (AC a<|AC c<|AC d<|AC e<|AC f<|AN))
     ·refine TY (fun g => ?_);refine TY (fun h => ?_);apply TW<;>intro i
      ·exact TT (DP Tryz.f79 [.b false,.b false,.b false,.b false,.b false,rT] (AC a<|AC c<|AC d<|AC e<|AC f<|AV (ψ:=fun k=>E.C k 103 [.one (.s .far () 5 (x0.f5.map (GTask.t q0))),.one (.s .far () 5 (b.f5.map (GTask.t q1)))]=some [T3 true]) (TZ (AO x0.f5 b.f5 g h) (by rw[i]))<|AN))
      ·exact TT (DP Tryz.f79 [.b false,.b false,.b false,.b false,.b false,rF] (AC a<|AC c<|AC d<|AC e<|AC f<|AV (ψ:=fun k=>E.C k 103 [.one (.s .far () 5 (x0.f5.map (GTask.t q0))),.one (.s .far () 5 (b.f5.map (GTask.t q1)))]=some [T3 false]) (TZ (AO x0.f5 b.f5 g h) (by rw[i]))<|AN))
theorem rv {q0:Kd}{q1:Kd}(x0:GDag)(a:GDag)(e:x0=a)(h:ac.sm x0):Does E 79 [.agg (GDag.t .far q0 x0),.agg (GDag.t .far q1 a)] [T3 (yes x0 a)]:=by subst e;obtain⟨w0,c,b⟩:=h;exact Pw x0 x0 _ (by unfold zD;simp only[b,UP,yes,Vc,Wl,Vg,Uu,Uo])
noncomputable def xg (x0 a:GPlan):Option (Bool):=if x0.f0=a.f0 then if ac.sm x0.f0 then cond (yes x0.f0 a.f0) (cond (!(x0.f1==a.f1)) (some (false)) (cond (x0.f2 != a.f2) (some (false)) (cond (x0.f3 != a.f3) (some (false)) (some (true))))) (some (false))else none else none
theorem NN {q0:Kd}{q1:Kd}(x0 a:GPlan):Ans (xg x0 a) (fun r=>Does E 52 [.agg (GPlan.t .far q0 x0),.agg (GPlan.t .far q1 a)] [T3 r]):=by
 unfold xg;refine TY (fun b => ?_);refine TY (fun c => ?_);apply TW<;>intro d
 ·apply TW<;>intro e
  ·exact TT (DP Tryz.f52 [rT,.b true] (AV (ψ:=fun k=>E.C k 79 [.agg (GDag.t .far q0 x0.f0),.agg (GDag.t .far q1 a.f0)]=some [T3 true]) (TZ (rv x0.f0 a.f0 b c) (by rw[d]))<|AC e<|AN))
  ·apply TW<;>intro f
   ·exact TT (DP Tryz.f52 [rT,.b false,.b true] (AV (ψ:=fun k=>E.C k 79 [.agg (GDag.t .far q0 x0.f0),.agg (GDag.t .far q1 a.f0)]=some [T3 true]) (TZ (rv x0.f0 a.f0 b c) (by rw[d]))<|AC e<|AC f<|AN))
   ·apply TW<;>intro g
    ·exact TT (DP Tryz.f52 [rT,.b false,.b false,.b true] (AV (ψ:=fun k=>E.C k 79 [.agg (GDag.t .far q0 x0.f0),.agg (GDag.t .far q1 a.f0)]=some [T3 true]) (TZ (rv x0.f0 a.f0 b c) (by rw[d]))<|AC e<|AC f<|AC g<|AN))
    ·exact TT (DP Tryz.f52 [rT,.b false,.b false,.b false] (AV (ψ:=fun k=>E.C k 79 [.agg (GDag.t .far q0 x0.f0),.agg (GDag.t .far q1 a.f0)]=some [T3 true]) (TZ (rv x0.f0 a.f0 b c) (by rw[d]))<|AC e<|AC f<|AC g<|AN))
 ·exact TT (DP Tryz.f52 [rF] (AV (ψ:=fun k=>E.C k 79 [.agg (GDag.t .far q0 x0.f0),.agg (GDag.t .far q1 a.f0)]=some [T3 false]) (TZ (rv x0.f0 a.f0 b c) (by rw[d]))<|AN))
theorem Ct {q0:Kd}{q1:Kd}(x0:GPlan)(a:GPlan)(e:x0=a)(h:ac.sm x0):Does E 52 [.agg (GPlan.t .far q0 x0),.agg (GPlan.t .far q1 a)] [T3 (yes x0 a)]:=by subst e;have w0:ac.sm x0.f0:=h;exact NN x0 x0 _ (by unfold xg;simp only[w0,UP,yes,Vc,Wl,Vg,Uu,Uo])
inductive zE where|ret (v4:Bool)|x0
def kg (q0:Kd)(q1:Kd)(v0 v1:List GPlan)(v5:Int):US:=stL 27 [(0,.one (.s .far () 9 (v0.map (GPlan.t q0 q0)))),(1,.one (.s .far () 9 (v1.map (GPlan.t q1 q1)))),(5,T5 v5)]
def pD (q0:Kd)(q1:Kd)(a:Bool):US:=stL 27 [(4,T6 a)]
def qn (q0:Kd)(q1:Kd)  : US:=stL 27 []
abbrev tL:US→Exit→US→Prop:=Round E 29 (am Tryz.f29 0)
def I7 {q0:Kd}{q1:Kd}(v0 v1:List GPlan)(v5:Int):zE→Prop| .ret a=>Loops E 29 (am Tryz.f29 0) (kg q0 q1 v0 v1 v5) .ret (pD q0 q1 a)| .x0=>Loops E 29 (am Tryz.f29 0) (kg q0 q1 v0 v1 v5) (.exit 0) (qn q0 q1)
noncomputable def jd (v1:List GPlan):List GPlan→Nat→Option zE|[],i=>some (.x0)|hd::rest,i=>(ak v1 (i:Int)).bind fun g1=>if hd=g1 then if ac.sm hd then cond (yes hd g1) (jd v1 rest (i+1)) (some (.ret false))else none else none
theorem I6 {q0:Kd}{q1:Kd}(v0 v1:List GPlan)(rest:List GPlan):∀(i:Nat) ,(v0).drop i=rest→v0.length≤9223372036854775807→Ans (jd v1 rest i) (I7 (q0:=q0) (q1:=q1) v0 v1 (i:Int)):=by
 induction rest with
 |nil =>intro i a b;have hb:=aI a;unfold jd;exact TT (TV (show tL (kg q0 q1 v0 v1 (i:Int)) (.exit 0) (qn q0 q1)from RP [T8 (v0.length:Int),.b false] (ALn v0 (GPlan.t q0 q0)<|AC hb<|AN)) (by intro h;cases h))
 |cons hd rest l =>
  intro i a b;have hb:=aC a;have m:=aD a b;have c:=aq a;have d:=aB a;unfold jd;refine TX (fun g1 e => ?_);refine TY (fun f => ?_);refine TY (fun g => ?_);apply TW<;>intro j
  ·exact(l (i+1) c b).mono fun y n=>by have r:tL (kg q0 q1 v0 v1 (i:Int)) .normal (kg q0 q1 v0 v1 (inc (i:Int))):=RP [T8 (v0.length:Int),.b true,.row ((GPlan.t q0 q0) hd),.row ((GPlan.t q1 q1) g1),rT] (ALn v0 (GPlan.t q0 q0)<|AC hb<|AR (GPlan.t q0 q0) d<|AR (GPlan.t q1 q1) e<|AV (ψ:=fun k=>E.C k 52 [.agg (GPlan.t .far q0 hd),.agg (GPlan.t .far q1 g1)]=some [T3 true]) (TZ (Ct hd g1 f g) (by rw[j]))<|AN);rw[m]at r;cases y<;>exact TU r n
  ·exact TT (TV (show tL (kg q0 q1 v0 v1 (i:Int)) .ret (pD q0 q1 false)from RP [T8 (v0.length:Int),.b true,.row ((GPlan.t q0 q0) hd),.row ((GPlan.t q1 q1) g1),rF] (ALn v0 (GPlan.t q0 q0)<|AC hb<|AR (GPlan.t q0 q0) d<|AR (GPlan.t q1 q1) e<|AV (ψ:=fun k=>E.C k 52 [.agg (GPlan.t .far q0 hd),.agg (GPlan.t .far q1 g1)]=some [T3 false]) (TZ (Ct hd g1 f g) (by rw[j]))<|AN)) (by intro h;cases h))
noncomputable def vj (x0 b:List GPlan):Option (Bool):=
  cond ((x0.length:Int) != (b.length:Int))
   (some (false))
   (if x0.length≤9223372036854775807 then(jd b x0 0).bind fun y=>match y with
    | .ret a=>(some (a))
    | .x0=>(some (true))else none)
theorem Lk {q0:Kd}{q1:Kd}(x0 a:List GPlan):Ans (vj x0 a) (fun r=>Does E 29 [.one (.s .far () 9 (x0.map (GPlan.t q0 q0))),.one (.s .far () 9 (a.map (GPlan.t q1 q1)))] [T3 r]):=by
 unfold vj;apply TW<;>intro d
 ·exact TT (DP Tryz.f29 [T8 (x0.length:Int),T8 (a.length:Int),.b true] (ALn x0 (GPlan.t q0 q0)<|ALn a (GPlan.t q1 q1)<|AC d<|AN))
 ·refine TY (fun e => ?_);refine TX (fun y c => ?_);replace c:=I6 (q0:=q0) (q1:=q1) x0 a x0 0 rfl e y c;cases y with
  |ret b =>have f:=c;exact TT (DP Tryz.f29 [T8 (x0.length:Int),T8 (a.length:Int),.b false,.lp .ret (pD q0 q1 b)] (ALn x0 (GPlan.t q0 q0)<|ALn a (GPlan.t q1 q1)<|AC d<|AL f<|AN))
  |x0 =>have f:=c;exact TT (DP Tryz.f29 [T8 (x0.length:Int),T8 (a.length:Int),.b false,.lp (.exit 0) (qn q0 q1)] (ALn x0 (GPlan.t q0 q0)<|ALn a (GPlan.t q1 q1)<|AC d<|AL f<|AN))
theorem yV (l:List GPlan):∀(rest:List GPlan)(i:Nat),l.drop i=rest→(∀y∈rest,ac.sm y)→jd l rest i=some .x0
 |[],i,_,_=>rfl
 |x::rest,i,a,h=>by have b:=h x (by simp);unfold jd;rw[aB a,Ua];simp only[b,UP,yes,Vc,Wl,Vg,Uu,Uo];exact yV l rest (i+1) (aq a) (fun y c=>h y (by simp[c]))
theorem np {q0:Kd}{q1:Kd}(x0:List GPlan)(a:List GPlan)(e:x0=a)(h:ac.sm x0):Does E 29 [.one (.s .far () 9 (x0.map (GPlan.t q0 q0))),.one (.s .far () 9 (a.map (GPlan.t q1 q1)))] [T3 (yes x0 a)]:=by subst e;exact Lk x0 x0 _ (by unfold vj;rw[Ub (bI h),yV x0 x0 0 rfl h.2];simp[yes])
noncomputable def xi (x0 a:GSpan):Option (Bool):=cond (x0.f0 != a.f0) (some (false)) (cond (x0.f1 != a.f1) (some (false)) (some (true)))
theorem NP (x0 b:GSpan):Ans (xi x0 b) (fun r=>Does E 80 [.agg (GSpan.t x0),.agg (GSpan.t b)] [T3 r]):=by
 unfold xi;apply TW<;>intro a
 ·exact TT (DP Tryz.f80 [.b true] (AC a<|AN))
 ·apply TW<;>intro c
  ·exact TT (DP Tryz.f80 [.b false,.b true] (AC a<|AC c<|AN))
  ·exact TT (DP Tryz.f80 [.b false,.b false] (AC a<|AC c<|AN))
theorem sG (x0:GSpan)(a:GSpan)(e:x0=a)(h:ac.sm x0):Does E 80 [.agg (GSpan.t x0),.agg (GSpan.t a)] [T3 (yes x0 a)]:=by
 subst e
 skip
 exact NP x0 x0 _ (by unfold xi;simp only[UP,yes,Vc,Wl,Vg,Uu,Uo])
noncomputable def vl (x0 a:GState):Option (Bool):=cond (x0.f0 != a.f0) (some (false)) (cond (x0.f1 != a.f1) (some (false)) (cond (x0.f2 != a.f2) (some (false)) (cond (x0.f3 != a.f3) (some (false)) (some (true)))))
theorem Ln (x0 d:GState):Ans (vl x0 d) (fun r=>Does E 104 [.agg (GState.t x0),.agg (GState.t d)] [T3 r]):=by
 unfold vl;apply TW<;>intro a
 ·exact TT (DP Tryz.f104 [.b true] (AC a<|AN))
 ·apply TW<;>intro b
  ·exact TT (DP Tryz.f104 [.b false,.b true] (AC a<|AC b<|AN))
  ·apply TW<;>intro c
   ·exact TT (DP Tryz.f104 [.b false,.b false,.b true] (AC a<|AC b<|AC c<|AN))
   ·apply TW<;>intro e
    ·exact TT (DP Tryz.f104 [.b false,.b false,.b false,.b true] (AC a<|AC b<|AC c<|AC e<|AN))
    ·exact TT (DP Tryz.f104 [.b false,.b false,.b false,.b false] (AC a<|AC b<|AC c<|AC e<|AN))
theorem AM (x0:GState)(a:GState)(e:x0=a)(h:ac.sm x0):Does E 104 [.agg (GState.t x0),.agg (GState.t a)] [T3 (yes x0 a)]:=by
 subst e
 skip
 exact Ln x0 x0 _ (by unfold vl;simp only[UP,yes,Vc,Wl,Vg,Uu,Uo])
inductive x6 where|ret (v4:Bool)|x0
def jr (v0 v1:List GState)(v5:Int):US:=stL 27 [(0,.one (.s .far () 4 (v0.map GState.t))),(1,.one (.s .far () 4 (v1.map GState.t))),(5,T5 v5)]
def ol (a:Bool):US:=stL 27 [(4,T6 a)]
def pF  : US:=stL 27 []
abbrev r7:US→Exit→US→Prop:=Round E 81 (am Tryz.f81 0)
def GJ (v0 v1:List GState)(v5:Int):x6→Prop| .ret a=>Loops E 81 (am Tryz.f81 0) (jr v0 v1 v5) .ret (ol a)| .x0=>Loops E 81 (am Tryz.f81 0) (jr v0 v1 v5) (.exit 0) (pF)
noncomputable def ie (v1:List GState):List GState→Nat→Option x6|[],i=>some (.x0)|hd::rest,i=>(ak v1 (i:Int)).bind fun g1=>if hd=g1 then if ac.sm hd then cond (yes hd g1) (ie v1 rest (i+1)) (some (.ret false))else none else none
theorem GI (v0 v1:List GState)(rest:List GState):∀(i:Nat) ,(v0).drop i=rest→v0.length≤9223372036854775807→Ans (ie v1 rest i) (GJ v0 v1 (i:Int)):=by
 induction rest with
 |nil =>intro i a b;have hb:=aI a;unfold ie;exact TT (TV (show r7 (jr v0 v1 (i:Int)) (.exit 0) (pF)from RP [T8 (v0.length:Int),.b false] (ALn v0 GState.t<|AC hb<|AN)) (by intro h;cases h))
 |cons hd rest k =>
  intro i a b;have hb:=aC a;have l:=aD a b;have c:=aq a;have d:=aB a;unfold ie;refine TX (fun g1 e => ?_);refine TY (fun f => ?_);refine TY (fun g => ?_);apply TW<;>intro j
  ·exact(k (i+1) c b).mono fun y m=>by have r:r7 (jr v0 v1 (i:Int)) .normal (jr v0 v1 (inc (i:Int))):=RP [T8 (v0.length:Int),.b true,.row (GState.t hd),.row (GState.t g1),rT] (ALn v0 GState.t<|AC hb<|AR GState.t d<|AR GState.t e<|AD (T1 (AM hd g1 f g) j)<|AN);rw[l]at r;cases y<;>exact TU r m
  ·exact TT (TV (show r7 (jr v0 v1 (i:Int)) .ret (ol false)from RP [T8 (v0.length:Int),.b true,.row (GState.t hd),.row (GState.t g1),rF] (ALn v0 GState.t<|AC hb<|AR GState.t d<|AR GState.t e<|AD (T1 (AM hd g1 f g) j)<|AN)) (by intro h;cases h))
noncomputable def tM (x0 b:List GState):Option (Bool):=
  cond ((x0.length:Int) != (b.length:Int))
   (some (false))
   (if x0.length≤9223372036854775807 then(ie b x0 0).bind fun y=>match y with
    | .ret a=>(some (a))
    | .x0=>(some (true))else none)
theorem I8 (x0 a:List GState):Ans (tM x0 a) (fun r=>Does E 81 [.one (.s .far () 4 (x0.map GState.t)),.one (.s .far () 4 (a.map GState.t))] [T3 r]):=by
 unfold tM;apply TW<;>intro d
 ·exact TT (DP Tryz.f81 [T8 (x0.length:Int),T8 (a.length:Int),.b true] (ALn x0 GState.t<|ALn a GState.t<|AC d<|AN))
 ·refine TY (fun e => ?_);refine TX (fun y c => ?_);replace c:=GI x0 a x0 0 rfl e y c;cases y with
  |ret b =>have f:=c;exact TT (DP Tryz.f81 [T8 (x0.length:Int),T8 (a.length:Int),.b false,.lp .ret (ol b)] (ALn x0 GState.t<|ALn a GState.t<|AC d<|AL f<|AN))
  |x0 =>have f:=c;exact TT (DP Tryz.f81 [T8 (x0.length:Int),T8 (a.length:Int),.b false,.lp (.exit 0) (pF)] (ALn x0 GState.t<|ALn a GState.t<|AC d<|AL f<|AN))
theorem xO (l:List GState):∀(rest:List GState)(i:Nat),l.drop i=rest→(∀y∈rest,ac.sm y)→ie l rest i=some .x0
 |[],i,_,_=>rfl
 |x::rest,i,a,h=>by have b:=h x (by simp);unfold ie;rw[aB a,Ua];simp only[b,UP,yes,Vc,Wl,Vg,Uu,Uo];exact xO l rest (i+1) (aq a) (fun y c=>h y (by simp[c]))
theorem yJ (x0:List GState)(a:List GState)(e:x0=a)(h:ac.sm x0):Does E 81 [.one (.s .far () 4 (x0.map GState.t)),.one (.s .far () 4 (a.map GState.t))] [T3 (yes x0 a)]:=by subst e;exact I8 x0 x0 _ (by unfold tM;rw[Ub (bI h),xO x0 x0 0 rfl h.2];simp[yes])
noncomputable def zF (x0 a:GRun):Option (Bool):=cond (!(x0.f0.toList==a.f0.toList)) (some (false)) (if x0.f1=a.f1 then if ac.sm x0.f1 then cond (yes x0.f1 a.f1) (cond (x0.f2 != a.f2) (some (false)) (if x0.f3=a.f3 then if ac.sm x0.f3 then cond (yes x0.f3 a.f3) (some (true)) (some (false))else none else none)) (some (false))else none else none)
theorem Px (x0 a:GRun):Ans (zF x0 a) (fun r=>Does E 53 [.agg (GRun.t .far x0),.agg (GRun.t .far a)] [T3 r]):=by
 unfold zF;apply TW<;>intro b
 ·exact TT (DP Tryz.f53 [.b true] (AC b<|AN))
 ·refine TY (fun c => ?_);refine TY (fun d => ?_);apply TW<;>intro e
  ·apply TW<;>intro f
   ·exact TT (DP Tryz.f53 [.b false,rT,.b true] (AC b<|AD (T1 (sG x0.f1 a.f1 c d) e)<|AC f<|AN))
   ·refine TY (fun g => ?_);refine TY (fun h => ?_);apply TW<;>intro i
    ·exact TT (DP Tryz.f53 [.b false,rT,.b false,rT] (AC b<|AD (T1 (sG x0.f1 a.f1 c d) e)<|AC f<|AD (T1 (yJ x0.f3 a.f3 g h) i)<|AN))
    ·exact TT (DP Tryz.f53 [.b false,rT,.b false,rF] (AC b<|AD (T1 (sG x0.f1 a.f1 c d) e)<|AC f<|AD (T1 (yJ x0.f3 a.f3 g h) i)<|AN))
  ·exact TT (DP Tryz.f53 [.b false,rF] (AC b<|AD (T1 (sG x0.f1 a.f1 c d) e)<|AN))
theorem FC (x0:GRun)(a:GRun)(e:x0=a)(h:ac.sm x0):Does E 53 [.agg (GRun.t .far x0),.agg (GRun.t .far a)] [T3 (yes x0 a)]:=by subst e;obtain⟨w0,b,c⟩:=h;exact Px x0 x0 _ (by unfold zF;simp only[b,c,UP,yes,Vc,Wl,Vg,Uu,Uo])
inductive Be where|ret (v4:Bool)|x0
def li (q0:Kd)(q1:Kd)(v0 v1:List GRun)(v5:Int):US:=stL 27 [(0,.one (.s .far () 5 (v0.map (GRun.t q0)))),(1,.one (.s .far () 5 (v1.map (GRun.t q1)))),(5,T5 v5)]
def qo (q0:Kd)(q1:Kd)(a:Bool):US:=stL 27 [(4,T6 a)]
def rZ (q0:Kd)(q1:Kd)  : US:=stL 27 []
abbrev vk:US→Exit→US→Prop:=Round E 30 (am Tryz.f30 0)
def Lm {q0:Kd}{q1:Kd}(v0 v1:List GRun)(v5:Int):Be→Prop| .ret a=>Loops E 30 (am Tryz.f30 0) (li q0 q1 v0 v1 v5) .ret (qo q0 q1 a)| .x0=>Loops E 30 (am Tryz.f30 0) (li q0 q1 v0 v1 v5) (.exit 0) (rZ q0 q1)
noncomputable def jU (v1:List GRun):List GRun→Nat→Option Be|[],i=>some (.x0)|hd::rest,i=>(ak v1 (i:Int)).bind fun g1=>if hd=g1 then if ac.sm hd then cond (yes hd g1) (jU v1 rest (i+1)) (some (.ret false))else none else none
theorem Ll {q0:Kd}{q1:Kd}(v0 v1:List GRun)(rest:List GRun):∀(i:Nat) ,(v0).drop i=rest→v0.length≤9223372036854775807→Ans (jU v1 rest i) (Lm (q0:=q0) (q1:=q1) v0 v1 (i:Int)):=by
 induction rest with
 |nil =>intro i a b;have hb:=aI a;unfold jU;exact TT (TV (show vk (li q0 q1 v0 v1 (i:Int)) (.exit 0) (rZ q0 q1)from RP [T8 (v0.length:Int),.b false] (ALn v0 (GRun.t q0)<|AC hb<|AN)) (by intro h;cases h))
 |cons hd rest k =>
  intro i a b;have hb:=aC a;have l:=aD a b;have c:=aq a;have d:=aB a;unfold jU;refine TX (fun g1 e => ?_);refine TY (fun f => ?_);refine TY (fun g => ?_);apply TW<;>intro j
  ·exact(k (i+1) c b).mono fun y m=>by have r:vk (li q0 q1 v0 v1 (i:Int)) .normal (li q0 q1 v0 v1 (inc (i:Int))):=RP [T8 (v0.length:Int),.b true,.row ((GRun.t q0) hd),.row ((GRun.t q1) g1),rT] (ALn v0 (GRun.t q0)<|AC hb<|AR (GRun.t q0) d<|AR (GRun.t q1) e<|AD (T1 (FC hd g1 f g) j)<|AN);rw[l]at r;cases y<;>exact TU r m
  ·exact TT (TV (show vk (li q0 q1 v0 v1 (i:Int)) .ret (qo q0 q1 false)from RP [T8 (v0.length:Int),.b true,.row ((GRun.t q0) hd),.row ((GRun.t q1) g1),rF] (ALn v0 (GRun.t q0)<|AC hb<|AR (GRun.t q0) d<|AR (GRun.t q1) e<|AD (T1 (FC hd g1 f g) j)<|AN)) (by intro h;cases h))
noncomputable def xh (x0 b:List GRun):Option (Bool):=
  cond ((x0.length:Int) != (b.length:Int))
   (some (false))
   (if x0.length≤9223372036854775807 then(jU b x0 0).bind fun y=>match y with
    | .ret a=>(some (a))
    | .x0=>(some (true))else none)
theorem NO {q0:Kd}{q1:Kd}(x0 a:List GRun):Ans (xh x0 a) (fun r=>Does E 30 [.one (.s .far () 5 (x0.map (GRun.t q0))),.one (.s .far () 5 (a.map (GRun.t q1)))] [T3 r]):=by
 unfold xh;apply TW<;>intro d
 ·exact TT (DP Tryz.f30 [T8 (x0.length:Int),T8 (a.length:Int),.b true] (ALn x0 (GRun.t q0)<|ALn a (GRun.t q1)<|AC d<|AN))
 ·refine TY (fun e => ?_);refine TX (fun y c => ?_);replace c:=Ll (q0:=q0) (q1:=q1) x0 a x0 0 rfl e y c;cases y with
  |ret b =>have f:=c;exact TT (DP Tryz.f30 [T8 (x0.length:Int),T8 (a.length:Int),.b false,.lp .ret (qo q0 q1 b)] (ALn x0 (GRun.t q0)<|ALn a (GRun.t q1)<|AC d<|AL f<|AN))
  |x0 =>have f:=c;exact TT (DP Tryz.f30 [T8 (x0.length:Int),T8 (a.length:Int),.b false,.lp (.exit 0) (rZ q0 q1)] (ALn x0 (GRun.t q0)<|ALn a (GRun.t q1)<|AC d<|AL f<|AN))
theorem AZ (l:List GRun):∀(rest:List GRun)(i:Nat),l.drop i=rest→(∀y∈rest,ac.sm y)→jU l rest i=some .x0
 |[],i,_,_=>rfl
 |x::rest,i,a,h=>by have b:=h x (by simp);unfold jU;rw[aB a,Ua];simp only[b,UP,yes,Vc,Wl,Vg,Uu,Uo];exact AZ l rest (i+1) (aq a) (fun y c=>h y (by simp[c]))
theorem sE {q0:Kd}{q1:Kd}(x0:List GRun)(a:List GRun)(e:x0=a)(h:ac.sm x0):Does E 30 [.one (.s .far () 5 (x0.map (GRun.t q0))),.one (.s .far () 5 (a.map (GRun.t q1)))] [T3 (yes x0 a)]:=by subst e;exact NO x0 x0 _ (by unfold xh;rw[Ub (bI h),AZ x0 x0 0 rfl h.2];simp[yes])
noncomputable def vi (x0 a:GBoard):Option (Bool):=if x0.f0=a.f0 then if ac.sm x0.f0 then cond (yes x0.f0 a.f0) (if x0.f1=a.f1 then if ac.sm x0.f1 then cond (yes x0.f1 a.f1) (if x0.f2=a.f2 then if ac.sm x0.f2 then cond (yes x0.f2 a.f2) (cond (x0.f3 != a.f3) (some (false)) (cond (x0.f4 != a.f4) (some (false)) (some (true)))) (some (false))else none else none) (some (false))else none else none) (some (false))else none else none
theorem Lj {q0:Kd}{q1:Kd}(x0 a:GBoard):Ans (vi x0 a) (fun r=>Does E 8 [.agg (GBoard.t .far q0 x0),.agg (GBoard.t .far q1 a)] [T3 r]):=by
 unfold vi;refine TY (fun b => ?_);refine TY (fun c => ?_);apply TW<;>intro d
 ·refine TY (fun e => ?_);refine TY (fun f => ?_);apply TW<;>intro g
  ·refine TY (fun i => ?_);refine TY (fun j => ?_);apply TW<;>intro l
   ·apply TW<;>intro m
    ·exact TT (DP Tryz.f8 [rT,rT,rT,.b true] (AD (T1 (iL x0.f0 a.f0 b c) d)<|AV (ψ:=fun k=>E.C k 29 [.one (.s .far () 9 (x0.f1.map (GPlan.t q0 q0))),.one (.s .far () 9 (a.f1.map (GPlan.t q1 q1)))]=some [T3 true]) (TZ (np x0.f1 a.f1 e f) (by rw[g]))<|AV (ψ:=fun k=>E.C k 30 [.one (.s .far () 5 (x0.f2.map (GRun.t q0))),.one (.s .far () 5 (a.f2.map (GRun.t q1)))]=some [T3 true]) (TZ (sE x0.f2 a.f2 i j) (by rw[l]))<|AC m<|AN))
    ·apply TW<;>intro h
     ·exact TT (DP Tryz.f8 [rT,rT,rT,.b false,.b true] (AD (T1 (iL x0.f0 a.f0 b c) d)<|AV (ψ:=fun k=>E.C k 29 [.one (.s .far () 9 (x0.f1.map (GPlan.t q0 q0))),.one (.s .far () 9 (a.f1.map (GPlan.t q1 q1)))]=some [T3 true]) (TZ (np x0.f1 a.f1 e f) (by rw[g]))<|AV (ψ:=fun k=>E.C k 30 [.one (.s .far () 5 (x0.f2.map (GRun.t q0))),.one (.s .far () 5 (a.f2.map (GRun.t q1)))]=some [T3 true]) (TZ (sE x0.f2 a.f2 i j) (by rw[l]))<|AC m<|AC h<|AN))
     ·exact TT (DP Tryz.f8 [rT,rT,rT,.b false,.b false] (AD (T1 (iL x0.f0 a.f0 b c) d)<|AV (ψ:=fun k=>E.C k 29 [.one (.s .far () 9 (x0.f1.map (GPlan.t q0 q0))),.one (.s .far () 9 (a.f1.map (GPlan.t q1 q1)))]=some [T3 true]) (TZ (np x0.f1 a.f1 e f) (by rw[g]))<|AV (ψ:=fun k=>E.C k 30 [.one (.s .far () 5 (x0.f2.map (GRun.t q0))),.one (.s .far () 5 (a.f2.map (GRun.t q1)))]=some [T3 true]) (TZ (sE x0.f2 a.f2 i j) (by rw[l]))<|AC m<|AC h<|AN))
   ·exact TT (DP Tryz.f8 [rT,rT,rF] (AD (T1 (iL x0.f0 a.f0 b c) d)<|AV (ψ:=fun k=>E.C k 29 [.one (.s .far () 9 (x0.f1.map (GPlan.t q0 q0))),.one (.s .far () 9 (a.f1.map (GPlan.t q1 q1)))]=some [T3 true]) (TZ (np x0.f1 a.f1 e f) (by rw[g]))<|AV (ψ:=fun k=>E.C k 30 [.one (.s .far () 5 (x0.f2.map (GRun.t q0))),.one (.s .far () 5 (a.f2.map (GRun.t q1)))]=some [T3 false]) (TZ (sE x0.f2 a.f2 i j) (by rw[l]))<|AN))
  ·exact TT (DP Tryz.f8 [rT,rF] (AD (T1 (iL x0.f0 a.f0 b c) d)<|AV (ψ:=fun k=>E.C k 29 [.one (.s .far () 9 (x0.f1.map (GPlan.t q0 q0))),.one (.s .far () 9 (a.f1.map (GPlan.t q1 q1)))]=some [T3 false]) (TZ (np x0.f1 a.f1 e f) (by rw[g]))<|AN))
 ·exact TT (DP Tryz.f8 [rF] (AD (T1 (iL x0.f0 a.f0 b c) d)<|AN))
theorem AK {q0:Kd}{q1:Kd}(x0:GBoard)(a:GBoard)(e:x0=a)(h:ac.sm x0):Does E 8 [.agg (GBoard.t .far q0 x0),.agg (GBoard.t .far q1 a)] [T3 (yes x0 a)]:=by subst e;obtain⟨w0,b,c⟩:=h;exact Lj x0 x0 _ (by unfold vi;simp only[w0,b,c,UP,yes,Vc,Wl,Vg,Uu,Uo])
end
end Go.Proofs.YtoanlngmbcnglaaGreatDoor.Am
