/- Plans. -/
import Derived.Test.YtjlkcjlcmaoccaaGreatDoorRules
namespace Go.Proofs.YtjlkcjlcmaoccaaGreatDoor.Am
open Go
set_option linter.unusedVariables false
set_option linter.unusedSimpArgs false
section
open Go.Proofs Classical
set_option maxRecDepth 100000
inductive yf where|ret (v2:Bool)|x0
def dk (v0:ByteArray)(v3:Int):US:=stL 46 [(0,O2 v0),(3,O0 v3)]
def ia (a:Bool):US:=stL 46 [(2,O1 a)]
def pR  : US:=stL 46 []
abbrev gV:US→Exit→US→Prop:=Round E 61 (av Tryz.f61 0)
def Hr (v0:ByteArray)(v3:Int):yf→Prop| .ret a=>Loops E 61 (av Tryz.f61 0) (dk v0 v3) .ret (ia a)| .x0=>Loops E 61 (av Tryz.f61 0) (dk v0 v3) (.exit 0) (pR)
noncomputable def fQ  : List Int→Nat→Option yf|[],i=>some (.x0)|hd::rest,i=>cond (decide (hd<(97:Int))) (cond (decide (hd<(48:Int))) (some (.ret false)) (cond (decide (hd>(57:Int))) (some (.ret false)) (fQ rest (i+1)))) (cond (decide (hd>(122:Int))) (cond (decide (hd<(48:Int))) (some (.ret false)) (cond (decide (hd>(57:Int))) (some (.ret false)) (fQ rest (i+1)))) (fQ rest (i+1)))
theorem Hq (v0:ByteArray)(rest:List Int):∀(i:Nat) ,(bY v0).drop i=rest→v0.size≤9223372036854775807→Ans (fQ rest i) (Hr v0 (i:Int)):=by
 induction rest with
 |nil =>intro i c g;have hb:=qO c;unfold fQ;exact OO (OQ (show gV (dk v0 (i:Int)) (.exit 0) (pR)from RP [.b false] (AC hb<|AN)) (by intro h;cases h))
 |cons hd rest k =>
  intro i c g;have hb:=pr c;have l:=pu c g;have d:=aE c;have a:=tg c;obtain rfl:=tf c;unfold fQ;apply OR<;>intro e
  ·apply OR<;>intro b
   ·exact OO (OQ (show gV (dk v0 (i:Int)) .ret (ia false)from RP [.b true,.b true,.b true] (AC hb<|AC a<|AC e<|AC a<|AC b<|AN)) (by intro h;cases h))
   ·apply OR<;>intro f
    ·exact OO (OQ (show gV (dk v0 (i:Int)) .ret (ia false)from RP [.b true,.b true,.b false,.b true] (AC hb<|AC a<|AC e<|AC a<|AC b<|AC a<|AC f<|AN)) (by intro h;cases h))
    ·exact(k (i+1) d g).mono fun y j=>by have r:gV (dk v0 (i:Int)) .normal (dk v0 (inc (i:Int))):=RP [.b true,.b true,.b false,.b false] (AC hb<|AC a<|AC e<|AC a<|AC b<|AC a<|AC f<|AN);rw[l]at r;cases y<;>exact OP r j
  ·apply OR<;>intro b
   ·apply OR<;>intro f
    ·exact OO (OQ (show gV (dk v0 (i:Int)) .ret (ia false)from RP [.b true,.b false,.b true,.b true] (AC hb<|AC a<|AC e<|AC a<|AC b<|AC a<|AC f<|AN)) (by intro h;cases h))
    ·apply OR<;>intro m
     ·exact OO (OQ (show gV (dk v0 (i:Int)) .ret (ia false)from RP [.b true,.b false,.b true,.b false,.b true] (AC hb<|AC a<|AC e<|AC a<|AC b<|AC a<|AC f<|AC a<|AC m<|AN)) (by intro h;cases h))
     ·exact(k (i+1) d g).mono fun y j=>by have r:gV (dk v0 (i:Int)) .normal (dk v0 (inc (i:Int))):=RP [.b true,.b false,.b true,.b false,.b false] (AC hb<|AC a<|AC e<|AC a<|AC b<|AC a<|AC f<|AC a<|AC m<|AN);rw[l]at r;cases y<;>exact OP r j
   ·exact(k (i+1) d g).mono fun y j=>by have r:gV (dk v0 (i:Int)) .normal (dk v0 (inc (i:Int))):=RP [.b true,.b false,.b false] (AC hb<|AC a<|AC e<|AC a<|AC b<|AN);rw[l]at r;cases y<;>exact OP r j
noncomputable def qq (x0:ByteArray):Option (Bool):=
  cond (ah (x0.size:Int) 1 8)
   (if 0≤(0:Int)∧(0:Int)<(x0.size:Int)then cond (decide ((gJ x0 (0:Int))<(97:Int)))
    (some (false))
    (cond (decide ((gJ x0 (0:Int))>(122:Int)))
     (some (false))
     (if x0.size≤9223372036854775807 then(fQ (bY x0) 0).bind fun y=>match y with
      | .ret a=>(some (a))
      | .x0=>(some (true))else none))else none)
   (some (false))
theorem JI (x0:ByteArray):Ans (qq x0) (fun r=>Does E 61 [O2 x0] [OY r]):=by
 unfold qq;apply OR<;>intro b
 ·refine OT (fun a => ?_);apply OR<;>intro d
  ·exact OO (DP Tryz.f61 [rT,.b true] (AD (OW (ai (x0.size:Int) 1 8) b)<|AC a<|AC d<|AN))
  ·apply OR<;>intro f
   ·exact OO (DP Tryz.f61 [rT,.b false,.b true] (AD (OW (ai (x0.size:Int) 1 8) b)<|AC a<|AC d<|AC a<|AC f<|AN))
   ·refine OT (fun g => ?_);refine OS (fun y e => ?_);replace e:=Hq x0 (bY x0) 0 rfl g y e;cases y with
    |ret c =>have h:=e;exact OO (DP Tryz.f61 [rT,.b false,.b false,.lp .ret (ia c)] (AD (OW (ai (x0.size:Int) 1 8) b)<|AC a<|AC d<|AC a<|AC f<|AL h<|AN))
    |x0 =>have h:=e;exact OO (DP Tryz.f61 [rT,.b false,.b false,.lp (.exit 0) (pR)] (AD (OW (ai (x0.size:Int) 1 8) b)<|AC a<|AC d<|AC a<|AC f<|AL h<|AN))
 ·exact OO (DP Tryz.f61 [rF] (AD (OW (ai (x0.size:Int) 1 8) b)<|AN))
inductive xV where|ret (v2:Bool)|x0
def cw (v0:ByteArray)(v3:Int):US:=stL 42 [(0,O2 v0),(3,O0 v3)]
def eR (a:Bool):US:=stL 42 [(2,O1 a)]
def pG (v0:ByteArray):US:=stL 42 [(0,O2 v0)]
abbrev e8:US→Exit→US→Prop:=Round E 67 (av Tryz.f67 0)
def GU (v0:ByteArray)(v3:Int):xV→Prop| .ret a=>Loops E 67 (av Tryz.f67 0) (cw v0 v3) .ret (eR a)| .x0=>Loops E 67 (av Tryz.f67 0) (cw v0 v3) (.exit 0) (pG v0)
noncomputable def e9  : List Int→Nat→Option xV|[],i=>some (.x0)|hd::rest,i=>cond (decide (hd≥(97:Int))) (cond (decide (hd≤(122:Int))) (e9 rest (i+1)) (cond ((i:Int)==(0:Int)) (some (.ret false)) (cond (decide (hd<(48:Int))) (some (.ret false)) (cond (decide (hd>(57:Int))) (some (.ret false)) (e9 rest (i+1)))))) (cond ((i:Int)==(0:Int)) (some (.ret false)) (cond (decide (hd<(48:Int))) (some (.ret false)) (cond (decide (hd>(57:Int))) (some (.ret false)) (e9 rest (i+1)))))
theorem GT (v0:ByteArray)(rest:List Int):∀(i:Nat) ,(bY v0).drop i=rest→v0.size≤9223372036854775807→Ans (e9 rest i) (GU v0 (i:Int)):=by
 induction rest with
 |nil =>intro i e j;have hb:=qO e;unfold e9;exact OO (OQ (show e8 (cw v0 (i:Int)) (.exit 0) (pG v0)from RP [.b false] (AC hb<|AN)) (by intro h;cases h))
 |cons hd rest l =>
  intro i e j;have hb:=pr e;have m:=pu e j;have f:=aE e;have a:=tg e;obtain rfl:=tf e;unfold e9;apply OR<;>intro c
  ·apply OR<;>intro b
   ·exact(l (i+1) f j).mono fun y k=>by have r:e8 (cw v0 (i:Int)) .normal (cw v0 (inc (i:Int))):=RP [.b true,.b true,.b true] (AC hb<|AC a<|AC c<|AC a<|AC b<|AN);rw[m]at r;cases y<;>exact OP r k
   ·apply OR<;>intro d
    ·exact OO (OQ (show e8 (cw v0 (i:Int)) .ret (eR false)from RP [.b true,.b true,.b false,.b true] (AC hb<|AC a<|AC c<|AC a<|AC b<|AC d<|AN)) (by intro h;cases h))
    ·apply OR<;>intro g
     ·exact OO (OQ (show e8 (cw v0 (i:Int)) .ret (eR false)from RP [.b true,.b true,.b false,.b false,.b true] (AC hb<|AC a<|AC c<|AC a<|AC b<|AC d<|AC a<|AC g<|AN)) (by intro h;cases h))
     ·apply OR<;>intro n
      ·exact OO (OQ (show e8 (cw v0 (i:Int)) .ret (eR false)from RP [.b true,.b true,.b false,.b false,.b false,.b true] (AC hb<|AC a<|AC c<|AC a<|AC b<|AC d<|AC a<|AC g<|AC a<|AC n<|AN)) (by intro h;cases h))
      ·exact(l (i+1) f j).mono fun y k=>by have r:e8 (cw v0 (i:Int)) .normal (cw v0 (inc (i:Int))):=RP [.b true,.b true,.b false,.b false,.b false,.b false] (AC hb<|AC a<|AC c<|AC a<|AC b<|AC d<|AC a<|AC g<|AC a<|AC n<|AN);rw[m]at r;cases y<;>exact OP r k
  ·apply OR<;>intro b
   ·exact OO (OQ (show e8 (cw v0 (i:Int)) .ret (eR false)from RP [.b true,.b false,.b true] (AC hb<|AC a<|AC c<|AC b<|AN)) (by intro h;cases h))
   ·apply OR<;>intro d
    ·exact OO (OQ (show e8 (cw v0 (i:Int)) .ret (eR false)from RP [.b true,.b false,.b false,.b true] (AC hb<|AC a<|AC c<|AC b<|AC a<|AC d<|AN)) (by intro h;cases h))
    ·apply OR<;>intro g
     ·exact OO (OQ (show e8 (cw v0 (i:Int)) .ret (eR false)from RP [.b true,.b false,.b false,.b false,.b true] (AC hb<|AC a<|AC c<|AC b<|AC a<|AC d<|AC a<|AC g<|AN)) (by intro h;cases h))
     ·exact(l (i+1) f j).mono fun y k=>by have r:e8 (cw v0 (i:Int)) .normal (cw v0 (inc (i:Int))):=RP [.b true,.b false,.b false,.b false,.b false] (AC hb<|AC a<|AC c<|AC b<|AC a<|AC d<|AC a<|AC g<|AN);rw[m]at r;cases y<;>exact OP r k
noncomputable def qe (x0:ByteArray):Option (Bool):=
  if x0.size≤9223372036854775807 then(e9 (bY x0) 0).bind fun y=>match y with
   | .ret a=>(some (a))
   | .x0=>(some (ah (x0.size:Int) 1 8))else none
theorem I9 (x0:ByteArray):Ans (qe x0) (fun r=>Does E 67 [O2 x0] [OY r]):=by
 unfold qe;refine OT (fun c => ?_);refine OS (fun y b => ?_);replace b:=GT x0 (bY x0) 0 rfl c y b;cases y with
 |ret a =>have d:=b;exact OO (DP Tryz.f67 [.lp .ret (eR a)] (AL d<|AN))
 |x0 =>have d:=b;exact OO (DP Tryz.f67 [.lp (.exit 0) (pG x0),.ret [OY (ah (x0.size:Int) 1 8)]] (AL d<|AD (aA (x0.size:Int) 1 (8:Int))<|AN))
def sI (h:Int):Bool:=decide (97≤h∧h≤122)
def lfI (h:Int):Bool:=decide (97≤h∧h≤122∨48≤h∧h≤57)
def MB:List Int→Bool|[]=>true|h::l=>sI h&&l.all lfI
def ex (s:ByteArray):Bool:=ah (s.size:Int) 1 8&&MB (bY s)
theorem Nr {α:Type}(h:Int)(A B:α):cond (decide (h<97)) (cond (decide (h<48)) A (cond (decide (h>57)) A B)) (cond (decide (h>122)) (cond (decide (h<48)) A (cond (decide (h>57)) A B)) B)=cond (lfI h) B A:=by
 unfold lfI;simp only[RA];repeat' split
 all_goals first|rfl|(exfalso;omega)
theorem MZ {α:Type}(h:Int)(A B:α):cond (decide (h≥97)) (cond (decide (h≤122)) B (cond (decide (h<48)) A (cond (decide (h>57)) A B))) (cond (decide (h<48)) A (cond (decide (h>57)) A B))=cond (lfI h) B A:=by
 unfold lfI;simp only[RA];repeat' split
 all_goals first|rfl|(exfalso;omega)
theorem MY {α:Type}(h:Int)(A B:α):cond (decide (h≥97)) (cond (decide (h≤122)) B A) A=cond (sI h) B A:=by
 unfold sI;simp only[RA];repeat' split
 all_goals first|rfl|(exfalso;omega)
theorem Nq {h:Int}(q:sI h=true):lfI h=true:=by unfold sI at q;unfold lfI;simp only[P9]at q ⊢;exact .inl q
theorem H8:∀(l:List Int)(i:Nat),fQ l i=some (cond (l.all lfI) .x0 (.ret false))
 |[],i=>rfl
 |h::l,i=>by unfold fQ;rw[H8 l (i+1),QJ,Nr];cases lfI h<;>rfl
theorem H7:∀(l:List Int)(i:Nat),e9 l (i+1)=some (cond (l.all lfI) .x0 (.ret false))
 |[],i=>rfl
 |h::l,i=>by
  unfold e9;have e:(((i+1:Nat):Int)==0)=false:=by rw[P8];omega
  rw[H7 l (i+1),QJ,e];simp only[Pt];rw[MZ];cases lfI h<;>rfl
theorem Nv (s:ByteArray)(hs:s.size≤2000000):qq s=some (ex s):=by
 unfold qq ex;cases q:ah (s.size:Int) 1 8 with
 |false=>rfl
 |true =>
  have c:1≤(s.size:Int)∧(s.size:Int)≤8:=by unfold ah at q;simpa using q
  rw[Pk,O6 (by omega),O6 (by omega),PJ,H8];have a:=sR s 0 (by omega);cases e:bY s with
  |nil=>rw[e]at a;cases a
  |cons h l =>
   rw[e]at a;have hb:h=gJ s (0:Int):=QW a;rw[←hb];show _=some (sI h&&l.all lfI);rw[QJ];have k:∀(X:Option Bool),cond (decide (h<97)) (some false) (cond (decide (h>122)) (some false) X)=cond (sI h) X (some false):=fun X=>by
    unfold sI;simp only[RA];repeat' split
    all_goals first|rfl|(exfalso;omega)
   rw[k];cases b:sI h with
   |false=>rfl
   |true =>rw[Nq b];cases l.all lfI<;>rfl
theorem Nu (s:ByteArray)(hs:s.size≤2000000):qe s=some (ex s):=by
 unfold qe ex;rw[O6 (by omega)];cases e:bY s with
 |nil =>show some (ah (s.size:Int) 1 8)=some (ah (s.size:Int) 1 8&&true);rw[Bool.and_true]
 |cons h l =>
  unfold e9 MB;have a:(((0:Nat):Int)==0)=true:=rfl;rw[H7 l 0,a];simp only[Pk];rw[MY];cases sI h with
  |false=>rw[Rq,Q2];rfl
  |true =>
   rw[Pk,PJ,O5];cases l.all lfI with
   |false=>rw[Q2];rfl
   |true=>rw[Bool.and_true];rfl
theorem cU (x0:ByteArray)(h:x0.size≤2000000):Does E 61 [O2 x0] [OY (ex x0)]:=by exact JI x0 _ (Nv x0 h)
theorem dr (x0:ByteArray)(h:x0.size≤2000000):Does E 67 [O2 x0] [OY (ex x0)]:=by exact I9 x0 _ (Nu x0 h)
noncomputable def lk (x0:ByteArray):Option (Int):=cond (x0.toList==(⟨#[111,110,101]⟩:ByteArray).toList) (some (1)) (cond (x0.toList==(⟨#[116,119,111]⟩:ByteArray).toList) (some (2)) (cond (x0.toList==(⟨#[119,105,100,101]⟩:ByteArray).toList) (some (4)) (some (0))))
theorem FV (x0:ByteArray):Ans (lk x0) (fun r=>Does E 84 [O2 x0] [OX r]):=by
 unfold lk;apply OR<;>intro a
 ·exact OO (DP Tryz.f84 [.b true] (AC a<|AN))
 ·apply OR<;>intro b
  ·exact OO (DP Tryz.f84 [.b false,.b true] (AC a<|AC b<|AN))
  ·apply OR<;>intro c
   ·exact OO (DP Tryz.f84 [.b false,.b false,.b true] (AC a<|AC b<|AC c<|AN))
   ·exact OO (DP Tryz.f84 [.b false,.b false,.b false] (AC a<|AC b<|AC c<|AN))
noncomputable def wo (x0:ByteArray):Option (Int):=cond (x0.toList==(⟨#[111,110,101]⟩:ByteArray).toList) (some (1)) (cond (x0.toList==(⟨#[116,119,111]⟩:ByteArray).toList) (some (2)) (cond (x0.toList==(⟨#[119,105,100,101]⟩:ByteArray).toList) (some (4)) (some (0))))
theorem EW (x0:ByteArray):Ans (wo x0) (fun r=>Does E 87 [O2 x0] [OX r]):=by
 unfold wo;apply OR<;>intro a
 ·exact OO (DP Tryz.f87 [.b true] (AC a<|AN))
 ·apply OR<;>intro b
  ·exact OO (DP Tryz.f87 [.b false,.b true] (AC a<|AC b<|AN))
  ·apply OR<;>intro c
   ·exact OO (DP Tryz.f87 [.b false,.b false,.b true] (AC a<|AC b<|AC c<|AN))
   ·exact OO (DP Tryz.f87 [.b false,.b false,.b false] (AC a<|AC b<|AC c<|AN))
noncomputable def b8 (s:ByteArray):Int:=(lk s).getD 0
theorem FB (s:ByteArray):lk s=some (b8 s):=by refine Tot.getD ?_ _;unfold lk;repeat' (first|exact Tot.some _|apply Tot.cond)
theorem nz (x0:ByteArray):Does E 84 [O2 x0] [OX (b8 x0)]:=by exact FV x0 _ (FB x0)
theorem kV (x0:ByteArray):Does E 87 [O2 x0] [OX (b8 x0)]:=by exact EW x0 _ (FB x0)
inductive Aq where|ret (v4:Int)|x0
def lY (q0:Kd)(v0:List GTask)(v1:ByteArray)(v5:Int):US:=stL 20 [(0,.one (.s .far () 5 (v0.map (GTask.t q0)))),(1,O2 v1),(5,O0 v5)]
def pV (q0:Kd)(a:Int):US:=stL 20 [(4,O0 a)]
def rn (q0:Kd)  : US:=stL 20 []
abbrev uR:US→Exit→US→Prop:=Round E 65 (av Tryz.f65 0)
def JM {q0:Kd}(v0:List GTask)(v1:ByteArray)(v5:Int):Aq→Prop| .ret a=>Loops E 65 (av Tryz.f65 0) (lY q0 v0 v1 v5) .ret (pV q0 a)| .x0=>Loops E 65 (av Tryz.f65 0) (lY q0 v0 v1 v5) (.exit 0) (rn q0)
noncomputable def kh (v1:ByteArray):List GTask→Nat→Option Aq|[],i=>some (.x0)|hd::rest,i=>cond (hd.f0.toList==v1.toList) (some (.ret (i:Int))) (kh v1 rest (i+1))
theorem JL {q0:Kd}(v0:List GTask)(v1:ByteArray)(rest:List GTask):∀(i:Nat) ,(v0).drop i=rest→v0.length≤9223372036854775807→Ans (kh v1 rest i) (JM (q0:=q0) v0 v1 (i:Int)):=by
 induction rest with
 |nil =>intro i a b;have hb:=aZ a;unfold kh;exact OO (OQ (show uR (lY q0 v0 v1 (i:Int)) (.exit 0) (rn q0)from RP [O3 (v0.length:Int),.b false] (ALn v0 (GTask.t q0)<|AC hb<|AN)) (by intro h;cases h))
 |cons hd rest f =>
  intro i a b;have hb:=aT a;have g:=aU a b;have c:=aE a;have d:=aW a;unfold kh;apply OR<;>intro e
  ·exact OO (OQ (show uR (lY q0 v0 v1 (i:Int)) .ret (pV q0 (i:Int))from RP [O3 (v0.length:Int),.b true,.row ((GTask.t q0) hd),.b true] (ALn v0 (GTask.t q0)<|AC hb<|AR (GTask.t q0) d<|AC e<|AN)) (by intro h;cases h))
  ·exact(f (i+1) c b).mono fun y j=>by have r:uR (lY q0 v0 v1 (i:Int)) .normal (lY q0 v0 v1 (inc (i:Int))):=RP [O3 (v0.length:Int),.b true,.row ((GTask.t q0) hd),.b false] (ALn v0 (GTask.t q0)<|AC hb<|AR (GTask.t q0) d<|AC e<|AN);rw[g]at r;cases y<;>exact OP r j
noncomputable def xf (x0:List GTask)(b:ByteArray):Option (Int):=
  if x0.length≤9223372036854775807 then(kh b x0 0).bind fun y=>match y with
   | .ret a=>(some (a))
   | .x0=>(some ((-1:Int)))else none
theorem Ll {q0:Kd}(x0:List GTask)(c:ByteArray):Ans (xf x0 c) (fun r=>Does E 65 [.one (.s .far () 5 (x0.map (GTask.t q0))),O2 c] [OX r]):=by
 unfold xf;refine OT (fun d => ?_);refine OS (fun y b => ?_);replace b:=JL (q0:=q0) x0 c x0 0 rfl d y b;cases y with
 |ret a =>have e:=b;exact OO (DP Tryz.f65 [.lp .ret (pV q0 a)] (AL e<|AN))
 |x0 =>have e:=b;exact OO (DP Tryz.f65 [.lp (.exit 0) (rn q0)] (AL e<|AN))
noncomputable def wt (x0:GTask)(a:ByteArray):Option (Bool):=some (x0.f0.toList==a.toList)
theorem EX (x0:GTask)(a:ByteArray):Ans (wt x0 a) (fun r=>Does E 88 [.agg (GTask.t .far x0),.im .far () [tS a] 0] [OY r]):=by unfold wt;exact OO (DP Tryz.f88 [] AN)
def jH (x:GTask)(n:ByteArray):Bool:=x.f0.toList==n.toList
def nB (n:ByteArray):List GTask→Nat→Int|[],_ => -1|t::r,i=>cond (jH t n) (i:Int) (nB n r (i+1))
def ar (ts:List GTask)(n:ByteArray):Int:=nB n ts 0
theorem nC (n:ByteArray):∀(l:List GTask)(i:Nat),(nB n l i = -1∧∀t∈l,jH t n=false)∨∃(k:Nat) (t:GTask),nB n l i=((i+k:Nat):Int)∧l[k]?=some t∧jH t n=true
 |[],i => .inl ⟨rfl,fun t a=>by cases a⟩
 |t::l,i=>by
  unfold nB;cases q:jH t n with
  |true=>exact .inr ⟨0,t,rfl,rfl,q⟩
  |false =>
   rw[Pt];rcases nC n l (i+1)with⟨h,b⟩|⟨k,u,c,d,e⟩
   ·exact .inl ⟨h,fun u hu=>by rcases PD.1 hu with rfl|hu;exact q;exact b u hu⟩
   ·exact .inr ⟨k+1,u,by rw[c];omega,d,e⟩
theorem JU (ts:List GTask)(n:ByteArray): -1≤ar ts n∧ar ts n<(ts.length:Int):=by
 unfold ar;rcases nC n ts 0 with⟨h,_⟩|⟨k,t,b,a,_⟩
 ·rw[h];omega
 ·have:k<ts.length:=by
   rcases Pf k ts.length with g|g
   ·exact g
   ·rw[Pc g]at a;cases a
  rw[b];omega
theorem HI {ts:List GTask}{n:ByteArray}(h:0≤ar ts n):∃t∈ts,tx t.f0=tx n:=by
 unfold ar at h;rcases nC n ts 0 with⟨b,_⟩|⟨k,t,c,h2,a⟩
 ·rw[b]at h;omega
 ·unfold jH at a;rw[ko,P9]at a;exact⟨t,O9 h2,a⟩
theorem Nh (n:ByteArray):∀(l:List GTask)(i:Nat),(kh n l i).bind (fun y=>match y with
   | .ret a=>(some (a))
   | .x0=>(some ((-1:Int))))=some (nB n l i)
 |[],i=>rfl
 |t::l,i=>by
  unfold kh nB;have e:(t.f0.toList==n.toList)=jH t n:=rfl;rw[e];cases jH t n with
  |true=>rfl
  |false=>exact Nh n l (i+1)
theorem vE (x0:GTask)(a:ByteArray):Does E 88 [.agg (GTask.t .far x0),.im .far () [tS a] 0] [OY (jH x0 a)]:=by exact EX x0 a _ rfl
theorem fT {q0:Kd}(x0:List GTask)(a:ByteArray)(h:x0.length≤1050000):Does E 65 [.one (.s .far () 5 (x0.map (GTask.t q0))),O2 a] [OX (ar x0 a)]:=by exact Ll x0 a _ (by unfold xf;rw[O6 (by omega)];exact Nh a x0 0)
inductive gA where|ret (v4:Int)|x0
def bC (q0:Kd)(v0:List GTask)(a:ByteArray)(v7 v8:Int):US:=stL 19 [(0,.one (.s .far () 5 (v0.map (GTask.t q0)))),(1,.fni 88 [((),[tS a])]),(7,O0 v7),(8,O0 v8)]
def dp (q0:Kd)(a:Int):US:=stL 19 [(4,O0 a)]
def dx (q0:Kd)  : US:=stL 19 []
abbrev dV:US→Exit→US→Prop:=Round E 73 (av Tryz.f73 0)
def l5 {q0:Kd}(v0:List GTask)(a:ByteArray)(v7 v8:Int):gA→Prop| .ret b=>Loops E 73 (av Tryz.f73 0) (bC q0 v0 a v7 v8) .ret (dp q0 b)| .x0=>Loops E 73 (av Tryz.f73 0) (bC q0 v0 a v7 v8) (.exit 0) (dx q0)
noncomputable def bm (a:ByteArray):List GTask→Nat→Option gA|[],i=>some (.x0)|hd::rest,i=>cond (jH hd a) (some (.ret (i:Int))) (bm a rest (i+1))
theorem l4 {q0:Kd}(v0:List GTask)(a:ByteArray)(rest:List GTask):∀(i:Nat) ,(v0).drop i=rest→v0.length≤9223372036854775807→Ans (bm a rest i) (l5 (q0:=q0) v0 a (v0.length:Int) (i:Int)):=by
 induction rest with
 |nil =>intro i b c;have hb:=aZ b;unfold bm;exact OO (OQ (show dV (bC q0 v0 a (v0.length:Int) (i:Int)) (.exit 0) (dx q0)from RP [.b false] (AC hb<|AN)) (by intro h;cases h))
 |cons hd rest g =>
  intro i b c;have hb:=aT b;have j:=aU b c;have d:=aE b;have e:=aW b;unfold bm;apply OR<;>intro f
  ·exact OO (OQ (show dV (bC q0 v0 a (v0.length:Int) (i:Int)) .ret (dp q0 (i:Int))from RP [.b true,.row ((GTask.t q0) hd),rT] (AC hb<|AR (GTask.t q0) e<|AD (OW (vE hd a) f)<|AN)) (by intro h;cases h))
  ·exact(g (i+1) d c).mono fun y k=>by have r:dV (bC q0 v0 a (v0.length:Int) (i:Int)) .normal (bC q0 v0 a (v0.length:Int) (inc (i:Int))):=RP [.b true,.row ((GTask.t q0) hd),rF] (AC hb<|AR (GTask.t q0) e<|AD (OW (vE hd a) f)<|AN);rw[j]at r;cases y<;>exact OP r k
noncomputable def d8 (x0:List GTask)(a:ByteArray):Option (Int):=
  if x0.length≤9223372036854775807 then(bm a x0 0).bind fun y=>match y with
   | .ret b=>(some (b))
   | .x0=>(some ((-1:Int)))else none
theorem ml {q0:Kd}(x0:List GTask)(a:ByteArray):Ans (d8 x0 a) (fun r=>Does E 73 [.one (.s .far () 5 (x0.map (GTask.t q0))),.fni 88 [((),[tS a])]] [OX r]):=by
 unfold d8;refine OT (fun d => ?_);refine OS (fun y c => ?_);replace c:=l4 (q0:=q0) x0 a x0 0 rfl d y c;cases y with
 |ret b =>have e:=c;exact OO (DP Tryz.f73 [O3 (x0.length:Int),.lp .ret (dp q0 b)] (ALn x0 (GTask.t q0)<|AL e<|AN))
 |x0 =>have e:=c;exact OO (DP Tryz.f73 [O3 (x0.length:Int),.lp (.exit 0) (dx q0)] (ALn x0 (GTask.t q0)<|AL e<|AN))
theorem Ng (n:ByteArray):∀(l:List GTask)(i:Nat),(bm n l i).bind (fun y=>match y with
   | .ret a=>(some (a))
   | .x0=>(some ((-1:Int))))=some (nB n l i)
 |[],i=>rfl
 |t::l,i=>by
  unfold bm nB;cases jH t n with
  |true=>rfl
  |false=>exact Ng n l (i+1)
theorem l9 {q0:Kd}(x0:List GTask)(a:ByteArray)(h:x0.length≤1050000):Does E 73 [.one (.s .far () 5 (x0.map (GTask.t q0))),.fni 88 [((),[tS a])]] [OX (ar x0 a)]:=by exact ml x0 a _ (by unfold d8;rw[O6 (by omega)];exact Ng a x0 0)
noncomputable def ur (x0:GDag)(a:ByteArray):Option (Int):=if x0.f5.length≤1050000 then some (ar x0.f5 a)else none
theorem Ja {q0:Kd}(x0:GDag)(a:ByteArray):Ans (ur x0 a) (fun r=>Does E 70 [.agg (GDag.t .far q0 x0),O2 a] [OX r]):=by unfold ur;refine OT (fun b => ?_);exact OO (DP Tryz.f70 [.ret [OX (ar x0.f5 a)]] (AV (ψ:=fun k=>E.C k 73 [.one (.s .far () 5 (x0.f5.map (GTask.t q0))),.fni 88 [((),[tS a])]]=some [OX (ar x0.f5 a)]) (l9 x0.f5 a b)<|AN))
def bL (d:GDag)(n:ByteArray):Int:=ar d.f5 n
theorem fK {q0:Kd}(x0:GDag)(a:ByteArray)(h:x0.f5.length≤1050000):Does E 70 [.agg (GDag.t .far q0 x0),O2 a] [OX (bL x0 a)]:=by exact Ja x0 a _ (by unfold ur;rw[O6 h];rfl)
inductive rJ where|ret (v6:Bool)|x0
def gt (q0:Kd)(a b:ByteArray)(c d:Int)(v0_4:Bool)(e:List GTask)(v2:List Int)(v10:List ByteArray)(v11 f:Int):US:=stL 25 [(0,.im .far () [tS a,tS b,tI c,tI d,tB v0_4,.s .far () 5 (e.map (GTask.t q0))] 0),(2,.one (.s .far () 1 (v2.map etI))),(10,.one (.s .far () 1 (v10.map etS))),(11,O0 v11),(12,O0 f)]
def la (q0:Kd)(a:Bool):US:=stL 25 [(6,O1 a)]
def mc (q0:Kd)  : US:=stL 25 []
abbrev nM:US→Exit→US→Prop:=Round E 75 (av Tryz.f75 0)
def zI {q0:Kd}(a b:ByteArray)(c d:Int)(v0_4:Bool)(e:List GTask)(v2:List Int)(v10:List ByteArray)(v11 f:Int):rJ→Prop| .ret g=>Loops E 75 (av Tryz.f75 0) (gt q0 a b c d v0_4 e v2 v10 v11 f) .ret (la q0 g)| .x0=>Loops E 75 (av Tryz.f75 0) (gt q0 a b c d v0_4 e v2 v10 v11 f) (.exit 0) (mc q0)
noncomputable def ff (a b:ByteArray)(c d:Int)(e:List GTask)(v2:List Int):List ByteArray→Nat→Bool→Option rJ|[],i,v0_4=>some (.x0)|hd::rest,i,v0_4=>if(GDag.mk a b c d v0_4 e).f5.length≤1050000 then if v2.length≤1050000 then cond (cb v2 (bL (GDag.mk a b c d v0_4 e) hd)) (ff a b c d e v2 rest (i+1) v0_4) (some (.ret false))else none else none
theorem zH {q0:Kd}(a b:ByteArray)(c d:Int)(e:List GTask)(v2:List Int)(v10:List ByteArray)(rest:List ByteArray):∀(i:Nat)(v0_4:Bool),(v10).drop i=rest→v10.length≤9223372036854775807→Ans (ff a b c d e v2 rest i v0_4) (zI (q0:=q0) a b c d v0_4 e v2 v10 (v10.length:Int) (i:Int)):=by
 induction rest with
 |nil =>intro i v0_4 f g;have hb:=aZ f;unfold ff;exact OO (OQ (show nM (gt q0 a b c d v0_4 e v2 v10 (v10.length:Int) (i:Int)) (.exit 0) (mc q0)from RP [.b false] (AC hb<|AN)) (by intro h;cases h))
 |cons hd rest p =>
  intro i v0_4 f g;have hb:=aT f;have q:=aU f g;have j:=aE f;have l:=aW f;unfold ff;refine OT (fun m => ?_);refine OT (fun n => ?_);apply OR<;>intro o
  ·exact(p (i+1) v0_4 j g).mono fun y s=>by have r:nM (gt q0 a b c d v0_4 e v2 v10 (v10.length:Int) (i:Int)) .normal (gt q0 a b c d v0_4 e v2 v10 (v10.length:Int) (inc (i:Int))):=RP [.b true,.row (etS hd),.ret [OX (bL (GDag.mk a b c d v0_4 e) hd)],rT] (AC hb<|AR etS l<|AV (ψ:=fun k=>E.C k 70 [.agg (GDag.t .far q0 (GDag.mk a b c d v0_4 e)),O2 hd]=some [OX (bL (GDag.mk a b c d v0_4 e) hd)]) (fK (GDag.mk a b c d v0_4 e) hd m)<|AD (OW (dy v2 (bL (GDag.mk a b c d v0_4 e) hd) n) o)<|AN);rw[q]at r;cases y<;>exact OP r s
  ·exact OO (OQ (show nM (gt q0 a b c d v0_4 e v2 v10 (v10.length:Int) (i:Int)) .ret (la q0 false)from RP [.b true,.row (etS hd),.ret [OX (bL (GDag.mk a b c d v0_4 e) hd)],rF] (AC hb<|AR etS l<|AV (ψ:=fun k=>E.C k 70 [.agg (GDag.t .far q0 (GDag.mk a b c d v0_4 e)),O2 hd]=some [OX (bL (GDag.mk a b c d v0_4 e) hd)]) (fK (GDag.mk a b c d v0_4 e) hd m)<|AD (OW (dy v2 (bL (GDag.mk a b c d v0_4 e) hd) n) o)<|AN)) (by intro h;cases h))
noncomputable def lD (x0:GDag)(b:GTask)(x2:List Int):Option (Bool):=
  if b.f4.length≤9223372036854775807 then(ff x0.f0 x0.f1 x0.f2 x0.f3 x0.f5 x2 b.f4 0 x0.f4).bind fun y=>match y with
   | .ret a=>(some (a))
   | .x0=>(some (true))else none
theorem A4 {q0:Kd}(x0:GDag)(a:GTask)(x2:List Int):Ans (lD x0 a x2) (fun r=>Does E 75 [.im .far () (GDag.t .far q0 x0) 0,.agg (GTask.t .far a),.one (.s .far () 1 (x2.map etI))] [OY r]):=by
 unfold lD;refine OT (fun d => ?_);refine OS (fun y c => ?_);replace c:=zH (q0:=q0) x0.f0 x0.f1 x0.f2 x0.f3 x0.f5 x2 a.f4 a.f4 0 x0.f4 rfl d y c;cases y with
 |ret b =>have e:=c;exact OO (DP Tryz.f75 [O3 (a.f4.length:Int),.lp .ret (la q0 b)] (ALn a.f4 etS<|AL e<|AN))
 |x0 =>have e:=c;exact OO (DP Tryz.f75 [O3 (a.f4.length:Int),.lp (.exit 0) (mc q0)] (ALn a.f4 etS<|AL e<|AN))
def rH (ts:List GTask)(o:List Int)(t:GTask):Bool:=t.f4.all fun n=>cb o (ar ts n)
def wE (d:GDag)(t:GTask)(o:List Int):Bool:=rH d.f5 o t
theorem KC (a b:ByteArray)(c e:Int)(ts:List GTask)(o:List Int)(d:ts.length≤1050000)(f:o.length≤1050000):∀(l:List ByteArray)(i:Nat)(z:Bool),ff a b c e ts o l i z=some (cond (l.all fun n=>cb o (ar ts n)) .x0 (.ret false))
 |[],i,z=>rfl
 |n::l,i,z=>by unfold ff;rw[O6 (show(GDag.mk a b c e z ts).f5.length≤1050000 from d),O6 f,QJ,KC a b c e ts o d f l (i+1) z];show cond (cb o (ar ts n)) _ _=_;cases cb o (ar ts n)<;>rfl
theorem No (d:GDag)(t:GTask)(o:List Int)(a:d.f5.length≤1050000)(c:t.f4.length≤1050000)(b:o.length≤1050000):lD d t o=some (wE d t o):=by unfold lD;rw[O6 (by omega),KC _ _ _ _ _ _ a b];show _=some (t.f4.all fun n=>cb o (ar d.f5 n));cases t.f4.all fun n=>cb o (ar d.f5 n)<;>rfl
theorem AF {q0:Kd}(x0:GDag)(a:GTask)(x2:List Int)(b:x0.f5.length≤1050000)(c:a.f4.length≤1050000)(d:x2.length≤1050000):Does E 75 [.im .far () (GDag.t .far q0 x0) 0,.agg (GTask.t .far a),.one (.s .far () 1 (x2.map etI))] [OY (wE x0 a x2)]:=by exact A4 x0 a x2 _ (No x0 a x2 b c d)
noncomputable def pH (x0:GTask)(a:List Int)(b:GDag):Option (Bool):=if b.f5.length≤1050000 then if a.length≤1050000 then cond (cb a (bL b x0.f0)) (some (false)) (if x0.f4.length≤1050000 then some (wE b x0 a)else none)else none else none
theorem C0 {b:Kd}(x0:GTask)(c:List Int)(a:GDag):Ans (pH x0 c a) (fun r=>Does E 74 [.agg (GTask.t .far x0),.im .far () [.s .far () 1 (c.map etI)] 0,.im .far () [tS a.f0,tS a.f1,tI a.f2,tI a.f3,tB a.f4,.s .far () 5 (a.f5.map (GTask.t b))] 0] [OY r]):=by
 unfold pH;refine OT (fun d => ?_);refine OT (fun e => ?_);apply OR<;>intro f
 ·exact OO (DP Tryz.f74 [.ret [OX (bL a x0.f0)],rT] (AV (ψ:=fun k=>E.C k 70 [.agg (GDag.t .far b a),O2 x0.f0]=some [OX (bL a x0.f0)]) (fK a x0.f0 d)<|AD (OW (dy c (bL a x0.f0) e) f)<|AN))
 ·refine OT (fun g => ?_);exact OO (DP Tryz.f74 [.ret [OX (bL a x0.f0)],rF,.ret [OY (wE a x0 c)]] (AV (ψ:=fun k=>E.C k 70 [.agg (GDag.t .far b a),O2 x0.f0]=some [OX (bL a x0.f0)]) (fK a x0.f0 d)<|AD (OW (dy c (bL a x0.f0) e) f)<|AV (ψ:=fun k=>E.C k 75 [.im .far () [tS a.f0,tS a.f1,tI a.f2,tI a.f3,tB a.f4,.s .far () 5 (a.f5.map (GTask.t b))] 0,.agg (GTask.t .far x0),.one (.s .far () 1 (c.map etI))]=some [OY (wE a x0 c)]) (AF a x0 c d g e)<|AN))
def yP (t:GTask)(o:List Int)(d:GDag):Bool := !cb o (ar d.f5 t.f0)&&rH d.f5 o t
theorem uX {c:Kd}(x0:GTask)(b:List Int)(a:GDag)(d:a.f5.length≤1050000)(e:x0.f4.length≤1050000)(f:b.length≤1050000):Does E 74 [.agg (GTask.t .far x0),.im .far () [.s .far () 1 (b.map etI)] 0,.im .far () [tS a.f0,tS a.f1,tI a.f2,tI a.f3,tB a.f4,.s .far () 5 (a.f5.map (GTask.t c))] 0] [OY (yP x0 b a)]:=by exact C0 x0 b a _ (by unfold pH yP;simp only[d,e,f,PK];show cond (cb b (ar a.f5 x0.f0)) _ _=_;cases cb b (ar a.f5 x0.f0)<;>rfl)
inductive gm where|ret (v4:Int)|x0
def bB (q0:Kd)(qc1_1:Kd)(v0:List GTask)(a:List Int)(b c:ByteArray)(d e:Int)(f:Bool)(g:List GTask)(v7 v8:Int):US:=stL 19 [(0,.one (.s .far () 5 (v0.map (GTask.t q0)))),(1,.fni 74 [((),[.s .far () 1 (a.map etI)]),((),[tS b,tS c,tI d,tI e,tB f,.s .far () 5 (g.map (GTask.t qc1_1))])]),(7,O0 v7),(8,O0 v8)]
def de (q0:Kd)(qc1_1:Kd)(a:Int):US:=stL 19 [(4,O0 a)]
def dq (q0:Kd)(qc1_1:Kd)  : US:=stL 19 []
abbrev dI:US→Exit→US→Prop:=Round E 73 (av Tryz.f73 0)
def lq {q0:Kd}{qc1_1:Kd}(v0:List GTask)(a:List Int)(b c:ByteArray)(d e:Int)(f:Bool)(g:List GTask)(v7 v8:Int):gm→Prop| .ret h=>Loops E 73 (av Tryz.f73 0) (bB q0 qc1_1 v0 a b c d e f g v7 v8) .ret (de q0 qc1_1 h)| .x0=>Loops E 73 (av Tryz.f73 0) (bB q0 qc1_1 v0 a b c d e f g v7 v8) (.exit 0) (dq q0 qc1_1)
noncomputable def bf (b:List Int)(c d:ByteArray)(e f:Int)(g:List GTask):List GTask→Nat→Bool→Option gm|[],i,a=>some (.x0)|hd::rest,i,a=>if(GDag.mk c d e f a g).f5.length≤1050000 then if hd.f4.length≤1050000 then if b.length≤1050000 then cond (yP hd b (GDag.mk c d e f a g)) (some (.ret (i:Int))) (bf b c d e f g rest (i+1) a)else none else none else none
theorem ln {q0:Kd}{qc1_1:Kd}(v0:List GTask)(b:List Int)(c d:ByteArray)(e f:Int)(g:List GTask)(rest:List GTask):∀(i:Nat)(a:Bool),(v0).drop i=rest→v0.length≤9223372036854775807→Ans (bf b c d e f g rest i a) (lq (q0:=q0) (qc1_1:=qc1_1) v0 b c d e f a g (v0.length:Int) (i:Int)):=by
 induction rest with
 |nil =>intro i a j l;have hb:=aZ j;unfold bf;exact OO (OQ (show dI (bB q0 qc1_1 v0 b c d e f a g (v0.length:Int) (i:Int)) (.exit 0) (dq q0 qc1_1)from RP [.b false] (AC hb<|AN)) (by intro h;cases h))
 |cons hd rest u =>
  intro i a j l;have hb:=aT j;have v:=aU j l;have m:=aE j;have n:=aW j;unfold bf;refine OT (fun o => ?_);refine OT (fun p => ?_);refine OT (fun q => ?_);apply OR<;>intro s
  ·exact OO (OQ (show dI (bB q0 qc1_1 v0 b c d e f a g (v0.length:Int) (i:Int)) .ret (de q0 qc1_1 (i:Int))from RP [.b true,.row ((GTask.t q0) hd),rT] (AC hb<|AR (GTask.t q0) n<|AV (ψ:=fun k=>E.C k 74 [.agg (GTask.t .far hd),.im .far () [.s .far () 1 (b.map etI)] 0,.im .far () [tS c,tS d,tI e,tI f,tB a,.s .far () 5 (g.map (GTask.t qc1_1))] 0]=some [OY true]) (OU (uX hd b (GDag.mk c d e f a g) o p q) (by rw[s]))<|AN)) (by intro h;cases h))
  ·exact(u (i+1) a m l).mono fun y w=>by have r:dI (bB q0 qc1_1 v0 b c d e f a g (v0.length:Int) (i:Int)) .normal (bB q0 qc1_1 v0 b c d e f a g (v0.length:Int) (inc (i:Int))):=RP [.b true,.row ((GTask.t q0) hd),rF] (AC hb<|AR (GTask.t q0) n<|AV (ψ:=fun k=>E.C k 74 [.agg (GTask.t .far hd),.im .far () [.s .far () 1 (b.map etI)] 0,.im .far () [tS c,tS d,tI e,tI f,tB a,.s .far () 5 (g.map (GTask.t qc1_1))] 0]=some [OY false]) (OU (uX hd b (GDag.mk c d e f a g) o p q) (by rw[s]))<|AN);rw[v]at r;cases y<;>exact OP r w
noncomputable def cD (x0:List GTask)(b:List Int)(a:GDag):Option (Int):=
  if x0.length≤9223372036854775807 then(bf b a.f0 a.f1 a.f2 a.f3 a.f5 x0 0 a.f4).bind fun y=>match y with
   | .ret c=>(some (c))
   | .x0=>(some ((-1:Int)))else none
theorem l6 {q0:Kd}{qc1_1:Kd}(x0:List GTask)(b:List Int)(a:GDag):Ans (cD x0 b a) (fun r=>Does E 73 [.one (.s .far () 5 (x0.map (GTask.t q0))),.fni 74 [((),[.s .far () 1 (b.map etI)]),((),[tS a.f0,tS a.f1,tI a.f2,tI a.f3,tB a.f4,.s .far () 5 (a.f5.map (GTask.t qc1_1))])]] [OX r]):=by
 unfold cD;refine OT (fun e => ?_);refine OS (fun y d => ?_);replace d:=ln (q0:=q0) (qc1_1:=qc1_1) x0 b a.f0 a.f1 a.f2 a.f3 a.f5 x0 0 a.f4 rfl e y d;cases y with
 |ret c =>have f:=d;exact OO (DP Tryz.f73 [O3 (x0.length:Int),.lp .ret (de q0 qc1_1 c)] (ALn x0 (GTask.t q0)<|AL f<|AN))
 |x0 =>have f:=d;exact OO (DP Tryz.f73 [O3 (x0.length:Int),.lp (.exit 0) (dq q0 qc1_1)] (ALn x0 (GTask.t q0)<|AL f<|AN))
def fk (o:List Int)(ts:List GTask):List GTask→Nat→Option Nat|[],_=>none|t::r,i=>if(!cb o (ar ts t.f0)&&rH ts o t)=true then some i else fk o ts r (i+1)
def cB (l:List GTask)(o:List Int)(d:GDag):Int:=match fk o d.f5 l 0 with|some i=>(i:Int)|none => -1
theorem KY (o:List Int)(a b:ByteArray)(c e:Int)(ts:List GTask)(f:ts.length≤1050000)(g:o.length≤1050000):∀(l:List GTask)(i:Nat)(z:Bool),ae.sm l→bf o a b c e ts l i z=some (match fk o ts l i with|some k => .ret (k:Int)|none => .x0)
 |[],i,z,_=>rfl
 |t::l,i,z,d=>by unfold bf fk;have h:t.f4.length≤1050000:=(d.2 t (by simp)).2.2.1;rw[O6 (show(GDag.mk a b c e z ts).f5.length≤1050000 from f),O6 h,O6 g,KY o a b c e ts f g l (i+1) z ⟨by have:=d.1;simp at this;omega,fun y j=>d.2 y (by simp[j])⟩];show cond (!cb o (ar ts t.f0)&&rH ts o t) _ _=_;cases(!cb o (ar ts t.f0)&&rH ts o t)<;>rfl
theorem Nw (l:List GTask)(o:List Int)(d:GDag)(a:ae.sm l)(b:d.f5.length≤1050000)(c:o.length≤1050000):cD l o d=some (cB l o d):=by unfold cD cB;rw[O6 (by have:=a.1;omega),KY o d.f0 d.f1 d.f2 d.f3 d.f5 b c l 0 d.f4 a];cases fk o d.f5 l 0<;>rfl
theorem gp {q0:Kd}{qc1_1:Kd}(x0:List GTask)(b:List Int)(a:GDag)(c:ae.sm x0)(d:a.f5.length≤1050000)(e:b.length≤1050000):Does E 73 [.one (.s .far () 5 (x0.map (GTask.t q0))),.fni 74 [((),[.s .far () 1 (b.map etI)]),((),[tS a.f0,tS a.f1,tI a.f2,tI a.f3,tB a.f4,.s .far () 5 (a.f5.map (GTask.t qc1_1))])]] [OX (cB x0 b a)]:=by exact l6 x0 b a _ (Nw x0 b a c d e)
inductive wz where|ret (v2:List Int)
def nO (q0:Kd)(a b:ByteArray)(c d:Int)(e:Bool)(f:List GTask)(g:List Int):US:=stL 16 [(1,.box () [tS a,tS b,tI c,tI d,tB e,.s .far () 5 (f.map (GTask.t q0))]),(3,.box () [.s .own () 1 (g.map etI)])]
def kO (q0:Kd)(a:List Int):US:=stL 16 [(2,.one (.s .own () 1 (a.map etI)))]
abbrev wy:US→Exit→US→Prop:=Round E 50 (av Tryz.f50 0)
def EZ {q0:Kd}(a b:ByteArray)(c d:Int)(e:Bool)(f:List GTask)(g:List Int):wz→Prop| .ret h=>Loops E 50 (av Tryz.f50 0) (nO q0 a b c d e f g) .ret (kO q0 h)
noncomputable def jt (c d:ByteArray)(e f:Int)(a:List GTask):Nat→Bool→(List Int)→Option wz| 0,_,_=>none|n+1,g,b=>if ae.sm a then if(GDag.mk c d e f g a).f5.length≤1050000 then if b.length≤1050000 then cond (decide ((cB a b (GDag.mk c d e f g a))<(0:Int))) (some (.ret b)) (if(b.length+([cB a b (GDag.mk c d e f g a)]).length)*8≤140737488355328∧b.length+([cB a b (GDag.mk c d e f g a)]).length≤4611686018427387904 then jt c d e f a n g (b++([cB a b (GDag.mk c d e f g a)]))else none)else none else none else none
theorem EY {q0:Kd}(d e:ByteArray)(f g:Int)(a:List GTask)(n:Nat):∀(c:Bool)(b:List Int),Ans (jt d e f g a n c b) (EZ (q0:=q0) d e f g c a b):=by
 induction n with
 |zero=>intros;exact Ans.none
 |succ n o =>
  intro c b;unfold jt;refine OT (fun i => ?_);refine OT (fun j => ?_);refine OT (fun l => ?_);apply OR<;>intro m
  ·exact OO (OQ (show wy (nO q0 d e f g c a b) .ret (kO q0 b)from Round.to (RP (D':=stL 16 [(2,.one (.s .own () 1 (((b.map etI).drop 0).take (b.map etI).length)))]) [.ret [OX (cB a b (GDag.mk d e f g c a))],.b true] (AV (ψ:=fun k=>E.C k 73 [.one (.s .far () 5 (a.map (GTask.t q0))),.fni 74 [((),[.s .far () 1 (b.map etI)]),((),[tS d,tS e,tI f,tI g,tB c,.s .far () 5 (a.map (GTask.t q0))])]]=some [OX (cB a b (GDag.mk d e f g c a))]) (gp a b (GDag.mk d e f g c a) i j l)<|AC m<|AN)) (by simp only[kO,PV,PQ])) (by intro h;cases h))
  ·refine OT (fun q => ?_);have r:wy (nO q0 d e f g c a b) .normal (nO q0 d e f g c a (b++([cB a b (GDag.mk d e f g c a)]))):=RP [.ret [OX (cB a b (GDag.mk d e f g c a))],.b false,.rows ((b++([cB a b (GDag.mk d e f g c a)])).map etI)] (AV (ψ:=fun k=>E.C k 73 [.one (.s .far () 5 (a.map (GTask.t q0))),.fni 74 [((),[.s .far () 1 (b.map etI)]),((),[tS d,tS e,tI f,tI g,tB c,.s .far () 5 (a.map (GTask.t q0))])]]=some [OX (cB a b (GDag.mk d e f g c a))]) (gp a b (GDag.mk d e f g c a) i j l)<|AC m<|AC (p:=(((([cB a b (GDag.mk d e f g c a)]).map etI).drop 0).take (([cB a b (GDag.mk d e f g c a)]).map etI).length).all (fun r=>r.all T.flat)=true∧((((b.map etI).drop 0).take (b.map etI).length).length+(((([cB a b (GDag.mk d e f g c a)]).map etI).drop 0).take (([cB a b (GDag.mk d e f g c a)]).map etI).length).length)*8≤140737488355328∧(((b.map etI).drop 0).take (b.map etI).length).length+(((([cB a b (GDag.mk d e f g c a)]).map etI).drop 0).take (([cB a b (GDag.mk d e f g c a)]).map etI).length).length≤4611686018427387904) (by simp only[PV,PQ];exact DN (fun x=>rfl) q)<|AC (p:=(((b.map etI).drop 0).take (b.map etI).length)++(((([cB a b (GDag.mk d e f g c a)]).map etI).drop 0).take (([cB a b (GDag.mk d e f g c a)]).map etI).length)=(b++([cB a b (GDag.mk d e f g c a)])).map etI) (by simp only[PV,PQ];exact Ed)<|AN);exact(o c (b++([cB a b (GDag.mk d e f g c a)]))).mono fun y s=>by cases y<;>exact OP r s
noncomputable def o8 (x0:GDag):Option ((List Int)):=
  (jt x0.f0 x0.f1 x0.f2 x0.f3 x0.f5 9223372036854775808 x0.f4 ([])).bind fun y=>match y with
   | .ret a=>(some (a))
theorem GY {q0:Kd}(x0:GDag):Ans (o8 x0) (fun r=>Does E 50 [.agg (GDag.t .far q0 x0)] [(false,[.s .own () 1 (r.map etI)])]):=by
 unfold o8;refine OS (fun y b => ?_);replace b:=EY (q0:=q0) x0.f0 x0.f1 x0.f2 x0.f3 x0.f5 9223372036854775808 x0.f4 ([]) y b;cases y with
 |ret a =>have c:=b;exact OO (DP Tryz.f50 [.lp .ret (kO q0 a)] (AL c<|AN))
def cG (ts:List GTask):Prop:=ts.length≤4∧∀(i:Nat)(t:GTask),ts[i]?=some t→ar ts t.f0=(i:Int)
def jx (ts:List GTask):Nat→List Int→List Int
 | 0,o=>o
 |k+1,o=>match fk o ts ts 0 with|none=>o|some i=>jx ts k (o++[(i:Int)])
def bW (ts:List GTask):List Int:=jx ts ts.length []
def cn (d:GDag):List Int:=bW d.f5
theorem oD {o:List Int}{x:Int}:cb o x=true↔x∈o:=by
 unfold cb;rw[Qx];constructor
 ·rintro⟨y,h,e⟩;rw[QM]at e;subst e;exact h
 ·intro h;exact⟨x,h,by simp⟩
theorem pO {o:List Int}{ts:List GTask}:∀{l:List GTask}{i k:Nat},fk o ts l i=some k→∃t j,k=i+j∧l[j]?=some t∧cb o (ar ts t.f0)=false∧rH ts o t=true
 |[],i,k,h=>by cases h
 |t::l,i,k,h=>by
  unfold fk at h;split at h
  ·rename_i q;cases h;simp only[PA,R3]at q;exact⟨t,0,rfl,rfl,q.1,q.2⟩
  ·obtain⟨u,j,c,a,b⟩:=pO h;exact⟨u,j+1,by omega,a,b⟩
def xt (n:Nat)(o:List Int):Nat:=((List.range n).filter fun i:Nat => !cb o (i:Int)).length
theorem Cj {α:Type}{p q:α→Bool}:∀{l:List α},(∀y,q y=true→p y=true)→(l.filter q).length≤(l.filter p).length
 |[],_=>by simp
 |z::l,h=>by
  have b:=Cj (l:=l) h;rw[Qy,Qy];cases a:q z with
  |true=>rw[h z a];simpa using b
  |false=>cases p z<;>simp<;>omega
theorem Ck {α:Type}{p q:α→Bool}{x:α}:∀{l:List α},(∀y,q y=true→p y=true)→x∈l→p x=true→q x=false→(l.filter q).length<(l.filter p).length
 |y::l,h,hx,b,c=>by
  have le:=Cj (l:=l) h;rw[Qy,Qy];rcases PD.1 hx with rfl|hx
  ·rw[b,c];simp;omega
  ·have:=Ck (l:=l) h hx b c;cases a:q y with
   |true=>rw[h y a];simpa using this
   |false=>cases p y<;>simp<;>omega
theorem KV {n i:Nat}{o:List Int}(hi:i<n)(h:cb o (i:Int)=false):xt n (o++[(i:Int)])<xt n o:=by
 unfold xt;refine Ck (p:=fun i:Nat => !cb o (i:Int)) (q:=fun j:Nat => !cb (o++[(i:Int)]) (j:Int)) (x:=i) (fun y a => ?_) (P1.2 hi) (by rw[h];rfl) ?_
 ·rw[R3]at a ⊢;rw[←Q1,oD]at a ⊢;exact fun e=>a (by simp[e])
 ·have:cb (o++[(i:Int)]) (i:Int)=true:=oD.2 (by simp);rw[this];rfl
theorem Mf (n:Nat):xt n []=n:=by
 unfold xt;have:(List.range n).filter (fun i:Nat => !cb [] (i:Int))=List.range n:=List.filter_eq_self.2 fun a _=>rfl
 rw[this,RX]
theorem Ia (a b:ByteArray)(c e:Int)(ts:List GTask)(hs:ae.sm ts)(h:cG ts):∀(k n:Nat)(o:List Int)(z:Bool),xt ts.length o≤k→k<n→o.length+k≤1000→jt a b c e ts n z o=some (.ret (jx ts k o))
 |k,0,o,z,_,r,_=>by omega
 |k,n+1,o,z,v,r,w=>by
  unfold jt;rw[O6 hs,O6 (show(GDag.mk a b c e z ts).f5.length≤1050000 from hs.1),O6 (by omega)];have s:cB ts o (GDag.mk a b c e z ts)=match fk o ts ts 0 with|some i=>(i:Int)|none => -1:=rfl
  rw[s];cases q:fk o ts ts 0 with
  |none =>
   have:jx ts k o=o:=by
    cases k with
    |zero=>rfl
    |succ k=>unfold jx;rw[q]
   rw[this];rfl
  |some i =>
   obtain⟨t,j,x,d,l,y⟩:=pO q;have f:i=j:=by omega
   subst f;rw[h.2 i t d]at l;have hi:i<ts.length:=by
    rcases Pf i ts.length with g|g
    ·exact g
    ·rw[Pc g]at d;cases d
   have p:=KV hi l;obtain⟨k,rfl⟩:∃m,k=m+1:=⟨k-1,by omega⟩
   have u:=Ia a b c e ts hs h k n (o++[(i:Int)]) z (by omega) (by omega) (by simp;omega);simp only;rw[Pg (by omega),Pt,O6 (by simp;omega),u]
   conv=>rhs;unfold jx
   rw[q]
theorem K5 (d:GDag)(h:ae.sm d)(a:cG d.f5):o8 d=some (cn d):=by have hs:ae.sm d.f5:=h.2.2;unfold o8;have:=Ia d.f0 d.f1 d.f2 d.f3 d.f5 hs a d.f5.length 9223372036854775808 [] d.f4 (by rw[Mf];exact PT _) (by have:=a.1;omega) (by have:=a.1;simp;omega);refine(Pw (Option.bind · _) this).trans rfl
theorem sb {q0:Kd}(x0:GDag)(h:ae.sm x0)(a:cG x0.f5):Does E 50 [.agg (GDag.t .far q0 x0)] [(false,[.s .own () 1 ((cn x0).map etI)])]:=by exact GY x0 _ (K5 x0 h a)
inductive vu where|x4 (v6:Bool)
def gE (q0:Kd)(v0:List GTask)(v3:List Int)(v4 v5:Int)(v6:Bool)(v7:Int):US:=stL 57 [(0,.one (.s .far () 5 (v0.map (GTask.t q0)))),(3,.one (.s .own () 1 (v3.map etI))),(4,O0 v4),(5,O0 v5),(6,O1 v6),(7,O0 v7)]
def iX (q0:Kd)(v0:List GTask)(v3:List Int)(v4 v5:Int)(a:Bool):US:=stL 57 [(0,.one (.s .far () 5 (v0.map (GTask.t q0)))),(3,.one (.s .own () 1 (v3.map etI))),(4,O0 v4),(5,O0 v5),(6,O1 a)]
abbrev mR:US→Exit→US→Prop:=Round E 43 (av Tryz.f43 2)
def Dy {q0:Kd}(v0:List GTask)(v3:List Int)(v4 v5:Int)(v6:Bool)(v7:Int):vu→Prop| .x4 a=>Loops E 43 (av Tryz.f43 2) (gE q0 v0 v3 v4 v5 v6 v7) (.exit 4) (iX q0 v0 v3 v4 v5 a)
noncomputable def fD (v0:List GTask)(v3:List Int)(v5:Int):Nat→Bool→Int→Option vu
 | 0,_,_=>none
 |n+1,v6,v7=>match v6 with
  |true=>(am v0 v5).bind fun a=>cond (decide (v7<(a.f4.length:Int)))
   ((am a.f4 v7).bind fun g1=>if v0.length≤1050000 then if v3.length≤1050000 then fD v0 v3 v5 n (cb v3 (ar v0 g1)) (inc v7)else none else none)
   (some (.x4 v6))
  |false=>(am v0 v5).bind fun a=>cond (decide (v7<(a.f4.length:Int)))
   (fD v0 v3 v5 n false (inc v7))
   (some (.x4 v6))
theorem Dv {q0:Kd}(v0:List GTask)(v3:List Int)(v4 v5:Int)(n:Nat):∀(v6:Bool)(v7:Int),Ans (fD v0 v3 v5 n v6 v7) (Dy (q0:=q0) v0 v3 v4 v5 v6 v7):=by
 induction n with
 |zero=>intros;exact Ans.none
 |succ n e =>
  intro v6 v7;unfold fD;cases v6 with
  |true =>
   refine OS (fun a b => ?_);apply OR<;>intro c
   ·refine OS (fun g1 f => ?_);refine OT (fun g => ?_);refine OT (fun i => ?_);have r:mR (gE q0 v0 v3 v4 v5 true v7) .normal (gE q0 v0 v3 v4 v5 (cb v3 (ar v0 g1)) (inc v7)):=RP [.row ((GTask.t q0) a),O3 (a.f4.length:Int),.b true,.row ((GTask.t q0) a),.row (etS g1),.ret [OX (ar v0 g1)],.ret [OY (cb v3 (ar v0 g1))]] (AR (GTask.t q0) b<|ALn a.f4 etS<|AC c<|AR (GTask.t q0) b<|AR etS f<|AV (ψ:=fun k=>E.C k 65 [.one (.s .far () 5 (v0.map (GTask.t q0))),O2 g1]=some [OX (ar v0 g1)]) (fT v0 g1 g)<|AV (ψ:=fun k=>E.C k 64 [.one (.s .far () 1 (((v3.map etI).drop 0).take (v3.map etI).length)),O0 (ar v0 g1)]=some [OY (cb v3 (ar v0 g1))]) (OV (by simp only[PV,PQ]) (rB v3 (ar v0 g1) i))<|AN);exact(e (cb v3 (ar v0 g1)) (inc v7)).mono fun y d=>by cases y<;>exact OP r d
   ·exact OO (OQ (show mR (gE q0 v0 v3 v4 v5 true v7) (.exit 4) (iX q0 v0 v3 v4 v5 true)from RP [.row ((GTask.t q0) a),O3 (a.f4.length:Int),.b false] (AR (GTask.t q0) b<|ALn a.f4 etS<|AC c<|AN)) (by intro h;cases h))
  |false =>
   refine OS (fun a b => ?_);apply OR<;>intro c
   ·have r:mR (gE q0 v0 v3 v4 v5 false v7) .normal (gE q0 v0 v3 v4 v5 false (inc v7)):=RP [.row ((GTask.t q0) a),O3 (a.f4.length:Int),.b true] (AR (GTask.t q0) b<|ALn a.f4 etS<|AC c<|AN);exact(e false (inc v7)).mono fun y d=>by cases y<;>exact OP r d
   ·exact OO (OQ (show mR (gE q0 v0 v3 v4 v5 false v7) (.exit 4) (iX q0 v0 v3 v4 v5 false)from RP [.row ((GTask.t q0) a),O3 (a.f4.length:Int),.b false] (AR (GTask.t q0) b<|ALn a.f4 etS<|AC c<|AN)) (by intro h;cases h))
inductive vt where|x2 (v3:List Int)
def fC (q0:Kd)(v0:List GTask)(v3:List Int)(v4 v5:Int):US:=stL 57 [(0,.one (.s .far () 5 (v0.map (GTask.t q0)))),(3,.one (.s .own () 1 (v3.map etI))),(4,O0 v4),(5,O0 v5)]
def ot (q0:Kd)(v0:List GTask)(v4:Int)(a:List Int):US:=stL 57 [(0,.one (.s .far () 5 (v0.map (GTask.t q0)))),(3,.one (.s .own () 1 (a.map etI))),(4,O0 v4)]
abbrev mQ:US→Exit→US→Prop:=Round E 43 (av Tryz.f43 1)
def Dx {q0:Kd}(v0:List GTask)(v3:List Int)(v4 v5:Int):vt→Prop| .x2 a=>Loops E 43 (av Tryz.f43 1) (fC q0 v0 v3 v4 v5) (.exit 2) (ot q0 v0 v4 a)
noncomputable def dN (v0:List GTask):Nat→(List Int)→Int→Option vt
 | 0,_,_=>none
 |n+1,v3,v5=>cond (decide (v5<(v0.length:Int)))
  (if v3.length≤1050000 then cond (cb v3 v5)
   (dN v0 n v3 (inc v5))
   ((fD v0 v3 v5 9223372036854775808 true 0).bind fun y=>match y with
    | .x4 a=>(match a with
     |true=>if(v3.length+([v5]).length)*8≤140737488355328∧v3.length+([v5]).length≤4611686018427387904 then dN v0 n (v3++([v5])) (inc (v0.length:Int))else none
     |false=>dN v0 n v3 (inc v5)))else none)
  (some (.x2 v3))
theorem Du {q0:Kd}(v0:List GTask)(v4:Int)(n:Nat):∀(v3:List Int)(v5:Int),Ans (dN v0 n v3 v5) (Dx (q0:=q0) v0 v3 v4 v5):=by
 induction n with
 |zero=>intros;exact Ans.none
 |succ n d =>
  intro v3 v5;unfold dN;apply OR<;>intro c
  ·refine OT (fun e => ?_);apply OR<;>intro f
   ·have r:mQ (fC q0 v0 v3 v4 v5) .normal (fC q0 v0 v3 v4 (inc v5)):=RP [O3 (v0.length:Int),.b true,rT] (ALn v0 (GTask.t q0)<|AC c<|AV (ψ:=fun k=>E.C k 64 [.one (.s .far () 1 (((v3.map etI).drop 0).take (v3.map etI).length)),O0 v5]=some [OY true]) (OV (by simp only[PV,PQ]) (OU (rB v3 v5 e) (by rw[f])))<|AN);exact(d v3 (inc v5)).mono fun y a=>by cases y<;>exact OP r a
   ·refine OS (fun y a => ?_);replace a:=Dv (q0:=q0) v0 v3 v4 v5 9223372036854775808 true 0 y a;cases y with
    |x4 b =>
     have g:=a;cases b with
     |true =>refine OT (fun i => ?_);have r:mQ (fC q0 v0 v3 v4 v5) .normal (fC q0 v0 (v3++([v5])) v4 (inc (v0.length:Int))):=RP [O3 (v0.length:Int),.b true,rF,.lp (.exit 4) (iX q0 v0 v3 v4 v5 true),.rows ((v3++([v5])).map etI),O3 (v0.length:Int)] (ALn v0 (GTask.t q0)<|AC c<|AV (ψ:=fun k=>E.C k 64 [.one (.s .far () 1 (((v3.map etI).drop 0).take (v3.map etI).length)),O0 v5]=some [OY false]) (OV (by simp only[PV,PQ]) (OU (rB v3 v5 e) (by rw[f])))<|AL g<|AAp etI (fun _=>rfl) i<|ALn v0 (GTask.t q0)<|AN);exact(d (v3++([v5])) (inc (v0.length:Int))).mono fun y a=>by cases y<;>exact OP r a
     |false =>have r:mQ (fC q0 v0 v3 v4 v5) .normal (fC q0 v0 v3 v4 (inc v5)):=RP [O3 (v0.length:Int),.b true,rF,.lp (.exit 4) (iX q0 v0 v3 v4 v5 false)] (ALn v0 (GTask.t q0)<|AC c<|AV (ψ:=fun k=>E.C k 64 [.one (.s .far () 1 (((v3.map etI).drop 0).take (v3.map etI).length)),O0 v5]=some [OY false]) (OV (by simp only[PV,PQ]) (OU (rB v3 v5 e) (by rw[f])))<|AL g<|AN);exact(d v3 (inc v5)).mono fun y a=>by cases y<;>exact OP r a
  ·exact OO (OQ (show mQ (fC q0 v0 v3 v4 v5) (.exit 2) (ot q0 v0 v4 v3)from RP [O3 (v0.length:Int),.b false] (ALn v0 (GTask.t q0)<|AC c<|AN)) (by intro h;cases h))
inductive vr where|x0 (v3:List Int)
def mS (q0:Kd)(v0:List GTask)(v3:List Int)(v4:Int):US:=stL 57 [(0,.one (.s .far () 5 (v0.map (GTask.t q0)))),(3,.one (.s .own () 1 (v3.map etI))),(4,O0 v4)]
def oq (q0:Kd)(a:List Int):US:=stL 57 [(3,.one (.s .own () 1 (a.map etI)))]
abbrev vq:US→Exit→US→Prop:=Round E 43 (av Tryz.f43 0)
def Dw {q0:Kd}(v0:List GTask)(v3:List Int)(v4:Int):vr→Prop| .x0 a=>Loops E 43 (av Tryz.f43 0) (mS q0 v0 v3 v4) (.exit 0) (oq q0 a)
noncomputable def gF (v0:List GTask):List GTask→Nat→(List Int)→Option vr
 |[],i,v3=>some (.x0 v3)
 |hd::rest,i,v3=>(dN v0 9223372036854775808 v3 0).bind fun y=>match y with
  | .x2 a=>(gF v0 rest (i+1) a)
theorem Dt {q0:Kd}(v0:List GTask)(rest:List GTask):∀(i:Nat)(v3:List Int),(v0).drop i=rest→v0.length≤9223372036854775807→Ans (gF v0 rest i v3) (Dw (q0:=q0) v0 v3 (i:Int)):=by
 induction rest with
 |nil =>intro i v3 b d;have hb:=aZ b;unfold gF;exact OO (OQ (show vq (mS q0 v0 v3 (i:Int)) (.exit 0) (oq q0 v3)from RP [O3 (v0.length:Int),.b false] (ALn v0 (GTask.t q0)<|AC hb<|AN)) (by intro h;cases h))
 |cons hd rest f =>
  intro i v3 b d;have hb:=aT b;have g:=aU b d;have e:=aE b;have k:=aW b;unfold gF;refine OS (fun y c => ?_);replace c:=Du (q0:=q0) v0 (i:Int) 9223372036854775808 v3 0 y c;cases y with
  |x2 a =>have j:=c;exact(f (i+1) a e d).mono fun y c=>by have r:vq (mS q0 v0 v3 (i:Int)) .normal (mS q0 v0 a (inc (i:Int))):=RP [O3 (v0.length:Int),.b true,.lp (.exit 2) (ot q0 v0 (i:Int) a)] (ALn v0 (GTask.t q0)<|AC hb<|AL j<|AN);rw[g]at r;cases y<;>exact OP r c
noncomputable def ou (x0:List GTask):Option ((List Int)):=
  if x0.length≤9223372036854775807 then(gF x0 x0 0 ([])).bind fun y=>match y with
   | .x0 a=>(some (a))else none
theorem F4 {q0:Kd}(x0:List GTask):Ans (ou x0) (fun r=>Does E 43 [.one (.s .far () 5 (x0.map (GTask.t q0)))] [(false,[.s .own () 1 (r.map etI)])]):=by
 unfold ou;refine OT (fun b => ?_);refine OS (fun y c => ?_);replace c:=Dt (q0:=q0) x0 x0 0 ([]) rfl b y c;cases y with
 |x0 a =>have d:=c;exact OO (DP Tryz.f43 [.lp (.exit 0) (oq q0 a)] (AL d<|AN))
theorem FW (ts:List GTask)(o:List Int)(i:Nat)(t:GTask)(c:ts.length≤1050000)(d:o.length≤1050000)(hi:ts[i]?=some t)(hf:t.f4.length≤1050000):∀(m k n:Nat)(b:Bool),k+m=t.f4.length→m<n →
  fD ts o (i:Int) n b (k:Int)=some (.x4 (b&&((t.f4.drop k).all fun x=>cb o (ar ts x))))
 |m,k,0,b,_,g=>by omega
 |m,k,n+1,b,j,g=>by
  have f:am ts (i:Int)=some t:=by rw[dZ];exact hi
  unfold fD;cases m with
  |zero =>have hd:t.f4.drop k=[]:=PW (by omega);rw[hd];cases b<;>(simp only[f,O5];rw[Pg (by omega)];rfl)
  |succ m =>
   have a:∃x,t.f4[k]?=some x:=⟨t.f4[k]'(by omega),Pb (by omega)⟩
   obtain⟨x,a⟩:=a;have hd:t.f4.drop k=x::t.f4.drop (k+1):=by rw[Qq (by omega:k<t.f4.length)];rw[Pb (by omega)]at a;rw[QW a]
   have e:inc (k:Int)=((k+1:Nat):Int):=by rw[fH _ (by omega) (by omega)];omega
   rw[hd,QJ];cases b with
   |false =>simp only[f,O5];rw[Ph (by omega),Pk,e,FW ts o i t c d hi hf m (k+1) n false (by omega) (by omega)];rfl
   |true =>
    have h:am t.f4 (k:Int)=some x:=by rw[dZ];exact a
    simp only[f,O5];rw[Ph (by omega),Pk,h,O5,O6 c,O6 d,e,FW ts o i t c d hi hf m (k+1) n _ (by omega) (by omega)];rfl
theorem Id (ts:List GTask)(hs:ae.sm ts)(b:cG ts)(o:List Int)(l:o.length≤1000):∀(m i n:Nat),i+m=ts.length→m+1<n →
  dN ts n o (i:Int)=some (.x2 (match fk o ts (ts.drop i) i with|some k=>o++[(k:Int)]|none=>o))
 |m,i,0,_,p=>by omega
 |m,i,n+1,hi,p=>by
  have q:=b.1;unfold dN;cases m with
  |zero =>have hd:ts.drop i=[]:=PW (by omega);rw[hd,Pg (by omega)];rfl
  |succ m =>
   have a:i<ts.length:=by omega
   have f:ts[i]?=some ts[i]:=Pb a;have hd:ts.drop i=ts[i]::ts.drop (i+1):=Qq a;have hf:ts[i].f4.length≤1050000:=(hs.2 ts[i] (Qv _)).2.2.1;have e:inc (i:Int)=((i+1:Nat):Int):=by rw[fH _ (by omega) (by omega)];omega
   have c:=b.2 i _ f;have g:=FW ts o i ts[i] hs.1 (by omega) f hf ts[i].f4.length 0 9223372036854775808 true (by omega) (by omega);have h:=Id ts hs b o l m (i+1) n (by omega) (by omega);rw[PQ,PJ]at g;have d:fD ts o (i:Int) 9223372036854775808 true (0:Int)=some (.x4 (rH ts o ts[i])):=g;rw[Ph (by omega),Pk,O6 (by omega),hd,d,e];unfold fk;rw[c];cases cb o (i:Int)with
   |true=>rw[Pk,h];rfl
   |false =>
    rw[Pt,O5];cases rH ts o ts[i]with
    |false =>simp only[h];rfl
    |true =>
     have stop:∀w,dN ts n w (inc (ts.length:Int))=some (.x2 w):=fun w=>by
      obtain⟨n,rfl⟩:∃j,n=j+1:=⟨n-1,by omega⟩
      unfold dN;rw[fH _ (by omega) (by omega),Pg (by omega)];rfl
     simp only[stop];rw[O6 (by simp;omega)];rfl
theorem yU (ts:List GTask)(hs:ae.sm ts)(a:cG ts):∀(l:List GTask)(i:Nat)(o:List Int),o.length+l.length≤1000→gF ts l i o=some (.x0 (jx ts l.length o))
 |[],i,o,_=>rfl
 |x::l,i,o,b=>by
  have c:=a.1;simp only[PH]at b;unfold gF;have r:=Id ts hs a o (by omega) ts.length 0 9223372036854775808 (by omega) (by omega);rw[PQ]at r;refine(Pw (Option.bind · _) r).trans ?_;rw[O5];simp only[PH];unfold jx;cases q:fk o ts ts 0 with
  |none =>
   simp only;rw[yU ts hs a l (i+1) o (by omega)];have:∀k,jx ts k o=o:=fun k=>by
    cases k with
    |zero=>rfl
    |succ k=>unfold jx;rw[q]
   rw[this]
  |some k =>simp only;exact yU ts hs a l (i+1) _ (by simp;omega)
theorem M1 (ts:List GTask)(hs:ae.sm ts)(a:cG ts):ou ts=some (bW ts):=by have b:=a.1;unfold ou;rw[O6 (by omega),yU ts hs a ts 0 [] (by simp;omega)];rfl
theorem qD {q0:Kd}(x0:List GTask)(h:ae.sm x0)(a:cG x0):Does E 43 [.one (.s .far () 5 (x0.map (GTask.t q0)))] [(false,[.s .own () 1 ((bW x0).map etI)])]:=by exact F4 x0 _ (M1 x0 h a)
inductive xW where|ret (v2:Bool)|x0
def fM (a b:ByteArray)(c:Int)(d:Bool)(e v28:List ByteArray)(f g:Int):US:=stL 54 [(1,.box () [tS a,tS b,tI c,tB d,.s .far () 1 (e.map etS)]),(28,.one (.s .far () 1 (v28.map etS))),(29,O0 f),(30,O0 g)]
def lJ (a:Bool):US:=stL 54 [(2,O1 a)]
def pJ  : US:=stL 54 []
abbrev mu:US→Exit→US→Prop:=Round E 69 (av Tryz.f69 0)
def G6 (a b:ByteArray)(c:Int)(d:Bool)(e v28:List ByteArray)(f g:Int):xW→Prop| .ret h=>Loops E 69 (av Tryz.f69 0) (fM a b c d e v28 f g) .ret (lJ h)| .x0=>Loops E 69 (av Tryz.f69 0) (fM a b c d e v28 f g) (.exit 0) (pJ)
noncomputable def gP (a:ByteArray)(b:List ByteArray):List ByteArray→Nat→Bool→Option xW|[],i,c=>some (.x0)|hd::rest,i,c=>cond (hd.toList==a.toList) (some (.ret false)) (cond (decide ((i:Int)>(0:Int))) ((am b (IntKind.wrap .i64 ((i:Int)-(1:Int)))).bind fun g1=>cond (Op.bytesLess hd.toList g1.toList ||hd.toList==g1.toList) (some (.ret false)) (gP a b rest (i+1) c)) (gP a b rest (i+1) c))
theorem G5 (b d:ByteArray)(e:Int)(c v28:List ByteArray)(rest:List ByteArray):∀(i:Nat)(a:Bool),(v28).drop i=rest→v28.length≤9223372036854775807→Ans (gP b c rest i a) (G6 b d e a c v28 (v28.length:Int) (i:Int)):=by
 induction rest with
 |nil =>intro i a f j;have hb:=aZ f;unfold gP;exact OO (OQ (show mu (fM b d e a c v28 (v28.length:Int) (i:Int)) (.exit 0) (pJ)from RP [.b false] (AC hb<|AN)) (by intro h;cases h))
 |cons hd rest o =>
  intro i a f j;have hb:=aT f;have p:=aU f j;have g:=aE f;have k:=aW f;unfold gP;apply OR<;>intro l
  ·exact OO (OQ (show mu (fM b d e a c v28 (v28.length:Int) (i:Int)) .ret (lJ false)from RP [.b true,.row (etS hd),.b true] (AC hb<|AR etS k<|AC l<|AN)) (by intro h;cases h))
  ·apply OR<;>intro m
   ·refine OS (fun g1 q => ?_);apply OR<;>intro s
    ·exact OO (OQ (show mu (fM b d e a c v28 (v28.length:Int) (i:Int)) .ret (lJ false)from RP [.b true,.row (etS hd),.b false,.b true,.row (etS g1),.b true] (AC hb<|AR etS k<|AC l<|AC m<|AR etS q<|AC s<|AN)) (by intro h;cases h))
    ·exact(o (i+1) a g j).mono fun y n=>by have r:mu (fM b d e a c v28 (v28.length:Int) (i:Int)) .normal (fM b d e a c v28 (v28.length:Int) (inc (i:Int))):=RP [.b true,.row (etS hd),.b false,.b true,.row (etS g1),.b false] (AC hb<|AR etS k<|AC l<|AC m<|AR etS q<|AC s<|AN);rw[p]at r;cases y<;>exact OP r n
   ·exact(o (i+1) a g j).mono fun y n=>by have r:mu (fM b d e a c v28 (v28.length:Int) (i:Int)) .normal (fM b d e a c v28 (v28.length:Int) (inc (i:Int))):=RP [.b true,.row (etS hd),.b false,.b false] (AC hb<|AR etS k<|AC l<|AC m<|AN);rw[p]at r;cases y<;>exact OP r n
noncomputable def qi (x0:GTask):Option (Bool):=
  if x0.f0.size≤2000000 then cond (ex x0.f0)
   (cond ((b8 x0.f1)==(0:Int))
    (some (false))
    (cond (ah x0.f2 0 3)
     (cond (decide ((x0.f4.length:Int)>(4:Int)))
      (some (false))
      (if x0.f4.length≤9223372036854775807 then(gP x0.f0 x0.f4 x0.f4 0 x0.f3).bind fun y=>match y with
       | .ret a=>(some (a))
       | .x0=>(some (true))else none))
     (some (false))))
   (some (false))else none
theorem Jm (x0:GTask):Ans (qi x0) (fun r=>Does E 69 [.agg (GTask.t .far x0)] [OY r]):=by
 unfold qi;refine OT (fun a => ?_);apply OR<;>intro b
 ·apply OR<;>intro c
  ·exact OO (DP Tryz.f69 [rT,.ret [OX (b8 x0.f1)],.b true] (AD (OW (dr x0.f0 a) b)<|AD (kV x0.f1)<|AC c<|AN))
  ·apply OR<;>intro e
   ·apply OR<;>intro g
    ·exact OO (DP Tryz.f69 [rT,.ret [OX (b8 x0.f1)],.b false,rT,O3 (x0.f4.length:Int),.b true] (AD (OW (dr x0.f0 a) b)<|AD (kV x0.f1)<|AC c<|AD (OW (aA x0.f2 0 3) e)<|ALn x0.f4 etS<|AC g<|AN))
    ·refine OT (fun h => ?_);refine OS (fun y f => ?_);replace f:=G5 x0.f0 x0.f1 x0.f2 x0.f4 x0.f4 x0.f4 0 x0.f3 rfl h y f;cases y with
     |ret d =>have i:=f;exact OO (DP Tryz.f69 [rT,.ret [OX (b8 x0.f1)],.b false,rT,O3 (x0.f4.length:Int),.b false,O3 (x0.f4.length:Int),.lp .ret (lJ d)] (AD (OW (dr x0.f0 a) b)<|AD (kV x0.f1)<|AC c<|AD (OW (aA x0.f2 0 3) e)<|ALn x0.f4 etS<|AC g<|ALn x0.f4 etS<|AL i<|AN))
     |x0 =>have i:=f;exact OO (DP Tryz.f69 [rT,.ret [OX (b8 x0.f1)],.b false,rT,O3 (x0.f4.length:Int),.b false,O3 (x0.f4.length:Int),.lp (.exit 0) (pJ)] (AD (OW (dr x0.f0 a) b)<|AD (kV x0.f1)<|AC c<|AD (OW (aA x0.f2 0 3) e)<|ALn x0.f4 etS<|AC g<|ALn x0.f4 etS<|AL i<|AN))
   ·exact OO (DP Tryz.f69 [rT,.ret [OX (b8 x0.f1)],.b false,rF] (AD (OW (dr x0.f0 a) b)<|AD (kV x0.f1)<|AC c<|AD (OW (aA x0.f2 0 3) e)<|AN))
 ·exact OO (DP Tryz.f69 [rF] (AD (OW (dr x0.f0 a) b)<|AN))
inductive xg where|ret (v4:Bool)|x0
def bK (q0:Kd)(v0:List GTask)(a b:ByteArray)(c:Int)(d:Bool)(v5_4:List ByteArray)(v6:Int):US:=stL 78 [(0,.one (.s .far () 5 (v0.map (GTask.t q0)))),(5,.box () [tS a,tS b,tI c,tB d,.s .far () 1 (v5_4.map etS)]),(6,O0 v6)]
def ek (q0:Kd)(a:Bool):US:=stL 78 [(4,O1 a)]
def lZ (q0:Kd)  : US:=stL 78 []
abbrev da:US→Exit→US→Prop:=Round E 62 (av Tryz.f62 0)
def F6 {q0:Kd}(v0:List GTask)(a b:ByteArray)(c:Int)(d:Bool)(v5_4:List ByteArray)(v6:Int):xg→Prop| .ret e=>Loops E 62 (av Tryz.f62 0) (bK q0 v0 a b c d v5_4 v6) .ret (ek q0 e)| .x0=>Loops E 62 (av Tryz.f62 0) (bK q0 v0 a b c d v5_4 v6) (.exit 0) (lZ q0)
theorem BD {q0:Kd}(v0:List GTask)(b c:ByteArray)(d:Int)(e:Bool)(v5_4:List ByteArray)(v6:Int)(a:ByteArray)(f:(decide (v6<(v5_4.length:Int)))=true)(g:am v5_4 v6=some a)(h:v0.length≤1050000)(i:(decide ((ar v0 a)<(0:Int)))=true):da (bK q0 v0 b c d e v5_4 v6) .ret (ek q0 false):=
 RP [O3 (v5_4.length:Int),.b true,.row (etS a),.ret [OX (ar v0 a)],.b true] (ALn v5_4 etS<|AC f<|AR etS g<|AV (ψ:=fun k=>E.C k 65 [.one (.s .far () 5 (v0.map (GTask.t q0))),O2 a]=some [OX (ar v0 a)]) (fT v0 a h)<|AC i<|AN)
theorem BE {q0:Kd}(v0:List GTask)(b c:ByteArray)(d:Int)(e:Bool)(v5_4:List ByteArray)(v6:Int)(a:ByteArray)(g:(decide (v6<(v5_4.length:Int)))=true)(f:am v5_4 v6=some a)(h:v0.length≤1050000)(i:(decide ((ar v0 a)<(0:Int)))=false)(j:(a.toList==b.toList)=true):da (bK q0 v0 b c d e v5_4 v6) .ret (ek q0 false):=
 RP [O3 (v5_4.length:Int),.b true,.row (etS a),.ret [OX (ar v0 a)],.b false,.row (etS a),.b true] (ALn v5_4 etS<|AC g<|AR etS f<|AV (ψ:=fun k=>E.C k 65 [.one (.s .far () 5 (v0.map (GTask.t q0))),O2 a]=some [OX (ar v0 a)]) (fT v0 a h)<|AC i<|AR etS f<|AC j<|AN)
theorem BF {q0:Kd}(v0:List GTask)(b c:ByteArray)(d:Int)(e:Bool)(v5_4:List ByteArray)(v6:Int)(a g1:ByteArray)(g:(decide (v6<(v5_4.length:Int)))=true)(f:am v5_4 v6=some a)(h:v0.length≤1050000)(i:(decide ((ar v0 a)<(0:Int)))=false)(j:(a.toList==b.toList)=false)(l:(decide (v6>(0:Int)))=true)(m:am v5_4 (IntKind.wrap .i64 (v6-(1:Int)))=some g1)(n:(!Op.bytesLess g1.toList a.toList)=true):da (bK q0 v0 b c d e v5_4 v6) .ret (ek q0 false):=
 RP [O3 (v5_4.length:Int),.b true,.row (etS a),.ret [OX (ar v0 a)],.b false,.row (etS a),.b false,.b true,.row (etS g1),.row (etS a),.b true] (ALn v5_4 etS<|AC g<|AR etS f<|AV (ψ:=fun k=>E.C k 65 [.one (.s .far () 5 (v0.map (GTask.t q0))),O2 a]=some [OX (ar v0 a)]) (fT v0 a h)<|AC i<|AR etS f<|AC j<|AC l<|AR etS m<|AR etS f<|AC n<|AN)
theorem BG {q0:Kd}(v0:List GTask)(a c:ByteArray)(d:Int)(e:Bool)(v5_4:List ByteArray)(v6:Int)(b g1:ByteArray)(g:(decide (v6<(v5_4.length:Int)))=true)(f:am v5_4 v6=some b)(h:v0.length≤1050000)(i:(decide ((ar v0 b)<(0:Int)))=false)(j:(b.toList==a.toList)=false)(l:(decide (v6>(0:Int)))=true)(m:am v5_4 (IntKind.wrap .i64 (v6-(1:Int)))=some g1)(n:(!Op.bytesLess g1.toList b.toList)=false):da (bK q0 v0 a c d e v5_4 v6) .normal (bK q0 v0 a c d e v5_4 (inc v6)):=
 RP [O3 (v5_4.length:Int),.b true,.row (etS b),.ret [OX (ar v0 b)],.b false,.row (etS b),.b false,.b true,.row (etS g1),.row (etS b),.b false] (ALn v5_4 etS<|AC g<|AR etS f<|AV (ψ:=fun k=>E.C k 65 [.one (.s .far () 5 (v0.map (GTask.t q0))),O2 b]=some [OX (ar v0 b)]) (fT v0 b h)<|AC i<|AR etS f<|AC j<|AC l<|AR etS m<|AR etS f<|AC n<|AN)
theorem BH {q0:Kd}(v0:List GTask)(a c:ByteArray)(d:Int)(e:Bool)(v5_4:List ByteArray)(v6:Int)(b:ByteArray)(g:(decide (v6<(v5_4.length:Int)))=true)(f:am v5_4 v6=some b)(h:v0.length≤1050000)(i:(decide ((ar v0 b)<(0:Int)))=false)(j:(b.toList==a.toList)=false)(l:(decide (v6>(0:Int)))=false):da (bK q0 v0 a c d e v5_4 v6) .normal (bK q0 v0 a c d e v5_4 (inc v6)):=
 RP [O3 (v5_4.length:Int),.b true,.row (etS b),.ret [OX (ar v0 b)],.b false,.row (etS b),.b false,.b false] (ALn v5_4 etS<|AC g<|AR etS f<|AV (ψ:=fun k=>E.C k 65 [.one (.s .far () 5 (v0.map (GTask.t q0))),O2 b]=some [OX (ar v0 b)]) (fT v0 b h)<|AC i<|AR etS f<|AC j<|AC l<|AN)
theorem BI {q0:Kd}(v0:List GTask)(a b:ByteArray)(c:Int)(d:Bool)(v5_4:List ByteArray)(v6:Int)(e:(decide (v6<(v5_4.length:Int)))=false):da (bK q0 v0 a b c d v5_4 v6) (.exit 0) (lZ q0):=
 RP [O3 (v5_4.length:Int),.b false] (ALn v5_4 etS<|AC e<|AN)
noncomputable def gj (v0:List GTask)(a:ByteArray)(v5_4:List ByteArray):List ByteArray→Nat→Bool→Option xg|[],i,b=>some (.x0)|hd::rest,i,b=>if v0.length≤1050000 then cond (decide ((ar v0 hd)<(0:Int))) (some (.ret false)) (cond (hd.toList==a.toList) (some (.ret false)) (cond (decide ((i:Int)>(0:Int))) ((am v5_4 (IntKind.wrap .i64 ((i:Int)-(1:Int)))).bind fun g1=>cond (!Op.bytesLess g1.toList hd.toList) (some (.ret false)) (gj v0 a v5_4 rest (i+1) b)) (gj v0 a v5_4 rest (i+1) b)))else none
theorem F5 {q0:Kd}(v0:List GTask)(b c:ByteArray)(d:Int)(v5_4:List ByteArray)(rest:List ByteArray):∀(i:Nat)(a:Bool),(v5_4).drop i=rest→v5_4.length≤9223372036854775807→Ans (gj v0 b v5_4 rest i a) (F6 (q0:=q0) v0 b c d a v5_4 (i:Int)):=by
 induction rest with
 |nil =>intro i a e l;have hb:=aZ e;unfold gj;exact OO (OQ (show da (bK q0 v0 b c d a v5_4 (i:Int)) (.exit 0) (lZ q0)from BI (q0:=q0) v0 b c d a v5_4 (i:Int) hb) (by intro h;cases h))
 |cons hd rest p =>
  intro i a e l;have hb:=aT e;have q:=aU e l;have f:=aE e;have g:=aW e;unfold gj;refine OT (fun j => ?_);apply OR<;>intro k
  ·exact OO (OQ (show da (bK q0 v0 b c d a v5_4 (i:Int)) .ret (ek q0 false)from BD (q0:=q0) v0 b c d a v5_4 (i:Int) hd hb g j k) (by intro h;cases h))
  ·apply OR<;>intro m
   ·exact OO (OQ (show da (bK q0 v0 b c d a v5_4 (i:Int)) .ret (ek q0 false)from BE (q0:=q0) v0 b c d a v5_4 (i:Int) hd hb g j k m) (by intro h;cases h))
   ·apply OR<;>intro n
    ·refine OS (fun g1 s => ?_);apply OR<;>intro t
     ·exact OO (OQ (show da (bK q0 v0 b c d a v5_4 (i:Int)) .ret (ek q0 false)from BF (q0:=q0) v0 b c d a v5_4 (i:Int) hd g1 hb g j k m n s t) (by intro h;cases h))
     ·exact(p (i+1) a f l).mono fun y o=>by have r:da (bK q0 v0 b c d a v5_4 (i:Int)) .normal (bK q0 v0 b c d a v5_4 (inc (i:Int))):=BG (q0:=q0) v0 b c d a v5_4 (i:Int) hd g1 hb g j k m n s t;rw[q]at r;cases y<;>exact OP r o
    ·exact(p (i+1) a f l).mono fun y o=>by have r:da (bK q0 v0 b c d a v5_4 (i:Int)) .normal (bK q0 v0 b c d a v5_4 (inc (i:Int))):=BH (q0:=q0) v0 b c d a v5_4 (i:Int) hd hb g j k m n;rw[q]at r;cases y<;>exact OP r o
noncomputable def pi (x0:List GTask)(c:Int):Option (Bool):=
  (am x0 c).bind fun a=>if a.f0.size≤2000000 then cond (ex a.f0)
   (if x0.length≤1050000 then cond ((ar x0 a.f0) != c)
    (some (false))
    (cond ((b8 a.f1)==(0:Int))
     (some (false))
     (cond (ah a.f2 0 3)
      (if a.f4.length≤9223372036854775807 then(gj x0 a.f0 a.f4 a.f4 0 a.f3).bind fun y=>match y with
       | .ret b=>(some (b))
       | .x0=>(some (true))else none)
      (some (false))))else none)
   (some (false))else none
theorem Hv {q0:Kd}(x0:List GTask)(n:Int):Ans (pi x0 n) (fun r=>Does E 62 [.one (.s .far () 5 (x0.map (GTask.t q0))),O0 n] [OY r]):=by
 unfold pi;refine OS (fun a b => ?_);refine OT (fun c => ?_);apply OR<;>intro d
 ·refine OT (fun e => ?_);apply OR<;>intro f
  ·exact OO (DP Tryz.f62 [.row ((GTask.t q0) a),rT,.ret [OX (ar x0 a.f0)],.b true] (AR (GTask.t q0) b<|AD (OW (cU a.f0 c) d)<|AV (ψ:=fun k=>E.C k 65 [.one (.s .far () 5 (x0.map (GTask.t q0))),O2 a.f0]=some [OX (ar x0 a.f0)]) (fT x0 a.f0 e)<|AC f<|AN))
  ·apply OR<;>intro h
   ·exact OO (DP Tryz.f62 [.row ((GTask.t q0) a),rT,.ret [OX (ar x0 a.f0)],.b false,.ret [OX (b8 a.f1)],.b true] (AR (GTask.t q0) b<|AD (OW (cU a.f0 c) d)<|AV (ψ:=fun k=>E.C k 65 [.one (.s .far () 5 (x0.map (GTask.t q0))),O2 a.f0]=some [OX (ar x0 a.f0)]) (fT x0 a.f0 e)<|AC f<|AD (nz a.f1)<|AC h<|AN))
   ·apply OR<;>intro j
    ·refine OT (fun l => ?_);refine OS (fun y i => ?_);replace i:=F5 (q0:=q0) x0 a.f0 a.f1 a.f2 a.f4 a.f4 0 a.f3 rfl l y i;cases y with
     |ret g =>have m:=i;exact OO (DP Tryz.f62 [.row ((GTask.t q0) a),rT,.ret [OX (ar x0 a.f0)],.b false,.ret [OX (b8 a.f1)],.b false,rT,.lp .ret (ek q0 g)] (AR (GTask.t q0) b<|AD (OW (cU a.f0 c) d)<|AV (ψ:=fun k=>E.C k 65 [.one (.s .far () 5 (x0.map (GTask.t q0))),O2 a.f0]=some [OX (ar x0 a.f0)]) (fT x0 a.f0 e)<|AC f<|AD (nz a.f1)<|AC h<|AD (OW (ai a.f2 0 3) j)<|AL m<|AN))
     |x0 =>have m:=i;exact OO (DP Tryz.f62 [.row ((GTask.t q0) a),rT,.ret [OX (ar x0 a.f0)],.b false,.ret [OX (b8 a.f1)],.b false,rT,.lp (.exit 0) (lZ q0)] (AR (GTask.t q0) b<|AD (OW (cU a.f0 c) d)<|AV (ψ:=fun k=>E.C k 65 [.one (.s .far () 5 (x0.map (GTask.t q0))),O2 a.f0]=some [OX (ar x0 a.f0)]) (fT x0 a.f0 e)<|AC f<|AD (nz a.f1)<|AC h<|AD (OW (ai a.f2 0 3) j)<|AL m<|AN))
    ·exact OO (DP Tryz.f62 [.row ((GTask.t q0) a),rT,.ret [OX (ar x0 a.f0)],.b false,.ret [OX (b8 a.f1)],.b false,rF] (AR (GTask.t q0) b<|AD (OW (cU a.f0 c) d)<|AV (ψ:=fun k=>E.C k 65 [.one (.s .far () 5 (x0.map (GTask.t q0))),O2 a.f0]=some [OX (ar x0 a.f0)]) (fT x0 a.f0 e)<|AC f<|AD (nz a.f1)<|AC h<|AD (OW (ai a.f2 0 3) j)<|AN))
 ·exact OO (DP Tryz.f62 [.row ((GTask.t q0) a),rF] (AR (GTask.t q0) b<|AD (OW (cU a.f0 c) d)<|AN))
def asc (self:ByteArray):List ByteArray→Option ByteArray→Bool
 |[],_=>true
 |x::l,p => !(x.toList==self.toList)&&(match p with|some y=>Op.bytesLess y.toList x.toList|none=>true)&&asc self l (some x)
theorem Fg:∀a b:List UInt8,(Op.bytesLess a b ||a==b)= !Op.bytesLess b a
 |[],[]=>rfl
 |[],_::_=>rfl
 |_::_,[]=>rfl
 |x::a,y::b=>by
  have g:=Fg a b;unfold Op.bytesLess;have e:(x::a==y::b)=(x==y&&a==b):=rfl;rw[e];rcases Rk x.toNat y.toNat with h|h|h
  ·have d:x<y:=QG.2 h;have c:¬y<x:=fun q=>by have:=QG.1 q;omega
   have f:(y==x)=false:=by rw[P8];intro q;subst q;omega
   simp[d,c,f]
  ·have i:x=y:=Sc.1 h;subst i;have c:¬x<x:=fun q=>by have:=QG.1 q;omega
   simp only[c,decide_false,Rf,beq_self_eq_true,PJ];exact g
  ·have d:y<x:=QG.2 h;have c:¬x<y:=fun q=>by have:=QG.1 q;omega
   have f:(x==y)=false:=by rw[P8];intro q;subst q;omega
   simp[d,c,f]
theorem xX:∀a:List UInt8,Op.bytesLess a a=false
 |[]=>rfl
 |x::a=>by
  unfold Op.bytesLess;have b:¬x<x:=fun q=>by have:=QG.1 q;omega
  simp[b,xX a]
theorem z6:∀{a b c:List UInt8},Op.bytesLess a b=true→Op.bytesLess b c=true→Op.bytesLess a c=true
 |[],[],_,h,_=>by cases h
 |[],_::_,[],_,h=>by cases h
 |[],_::_,_::_,_,_=>rfl
 |_::_,[],_,h,_=>by cases h
 |_::_,_::_,[],_,h=>by cases h
 |x::a,y::b,z::c,e,d=>by
  unfold Op.bytesLess at *;simp only[RJ,P9,PA,QM,QG]at *;rcases e with e|⟨rfl,e⟩
  ·rcases d with d|⟨rfl,d⟩
   ·exact .inl (by omega)
   ·exact .inl e
  ·rcases d with d|⟨rfl,d⟩
   ·exact .inl d
   ·exact .inr ⟨rfl,z6 e d⟩
theorem rC (self:ByteArray):∀(l:List ByteArray)(p:Option ByteArray),asc self l p=true→(l.map tx).Nodup∧∀y,p=some y→∀x∈l,Op.bytesLess (tx y) (tx x)=true
 |[],p,_=>⟨by simp,fun y _ x hx=>by cases hx⟩
 |z::l,p,h=>by
  unfold asc at h;simp only[PA]at h;obtain⟨c,d⟩:=rC self l (some z) h.2;have a:=d z rfl;refine⟨?_,fun y e x hx => ?_⟩
  ·rw[Pv,RK];refine⟨fun q => ?_,c⟩;obtain⟨w,f,e⟩:=Pu.1 q;have:=a w f;rw[e,xX]at this;cases this
  ·subst e;have b:Op.bytesLess (tx y) (tx z)=true:=by have:=h.1.2;simp only[AO]at this;exact this
   rcases PD.1 hx with rfl|hx
   ·exact b
   ·exact z6 b (a x hx)
theorem Ij {α:Type}[DecidableEq α]:∀{l m:List α},l.Nodup→(∀x∈l,x∈m)→l.length≤m.length
 |[],_,_,_=>Rp _
 |x::l,m,h,a=>by
  rw[RK]at h;have b:=a x (by simp);have:=Ij (l:=l) (m:=m.erase x) h.2 fun y c=>(List.mem_erase_of_ne (fun e=>h.1 (by rw[←e];exact c))).2 (a y (by simp[c]))
  rw[R7 b]at this;have:0<m.length:=List.length_pos_of_mem b;simp only[PH];omega
theorem Mu (self:ByteArray)(aC:List ByteArray)(c:aC.length≤1050000):∀(rest:List ByteArray)(i:Nat)(z:Bool),aC.drop i=rest→gP self aC rest i z=some (cond (asc self rest (if i=0 then none else aC[i-1]?)) .x0 (.ret false))
 |[],i,z,_=>rfl
 |x::rest,i,z,h=>by
  have a:=Mu self aC c rest (i+1) z (aE h);have d:(if i+1=0 then none else aC[i+1-1]?)=some x:=by rw[Pj (by omega)];show aC[i]?=some x;rw[←Rg,h];rfl
  rw[d]at a;unfold gP asc;rw[a];cases x.toList==self.toList with
  |true=>rfl
  |false =>
   rw[Pt];by_cases q:i=0
   ·subst q;rw[Pg (by omega),O6 rfl,Pt];rfl
   ·have hi:i-1<aC.length:=by
     rcases Pf i aC.length with g|g
     ·omega
     ·rw[PW g]at h;cases h
    have e:i≤aC.length:=by
     rcases Pf i aC.length with g|g
     ·omega
     ·rw[PW g]at h;cases h
    have b:aC[i-1]?=some aC[i-1]:=Pb hi;have f:am aC (IntKind.wrap .i64 ((i:Int)-1))=some aC[i-1]:=by rw[dn _ (by omega) (by omega),show((i:Int)-1)=((i-1:Nat):Int) by omega,dZ,b]
    rw[Ph (by omega),Pj q,Pk,f,O5,b,Fg];simp only[Rr,PJ];cases Op.bytesLess aC[i-1].toList x.toList<;>rfl
theorem Mv (ts:List GTask)(a:ts.length≤1050000)(self:ByteArray)(aC:List ByteArray)(d:aC.length≤1050000):∀(rest:List ByteArray)(i:Nat)(z:Bool),aC.drop i=rest→gj ts self aC rest i z=some (cond (asc self rest (if i=0 then none else aC[i-1]?)&&rest.all fun n=>decide (0≤ar ts n)) .x0 (.ret false))
 |[],i,z,_=>rfl
 |x::rest,i,z,h=>by
  have b:=Mv ts a self aC d rest (i+1) z (aE h);have e:(if i+1=0 then none else aC[i+1-1]?)=some x:=by rw[Pj (by omega)];show aC[i]?=some x;rw[←Rg,h];rfl
  rw[e]at b;unfold gj asc;rw[b,O6 a,QJ];by_cases w:ar ts x<0
  ·rw[Ph w,Pg (by omega:¬ 0≤ar ts x),Rq,Q2];rfl
  ·rw[Pg w,Ph (by omega:0≤ar ts x),PJ,Pt];cases x.toList==self.toList with
   |true=>rfl
   |false =>
    rw[Pt];by_cases q:i=0
    ·subst q;rw[Pg (by omega),O6 rfl,Pt];rfl
    ·have hi:i-1<aC.length:=by
      rcases Pf i aC.length with g|g
      ·omega
      ·rw[PW g]at h;cases h
     have f:i≤aC.length:=by
      rcases Pf i aC.length with g|g
      ·omega
      ·rw[PW g]at h;cases h
     have c:aC[i-1]?=some aC[i-1]:=Pb hi;have j:am aC (IntKind.wrap .i64 ((i:Int)-1))=some aC[i-1]:=by rw[dn _ (by omega) (by omega),show((i:Int)-1)=((i-1:Nat):Int) by omega,dZ,c]
     rw[Ph (by omega),Pj q,Pk,j,O5,c];simp only[Rr,PJ];cases Op.bytesLess aC[i-1].toList x.toList<;>rfl
noncomputable def rq (t:GTask):Bool:=ex t.f0&&((b8 t.f1 != 0)&&(ah t.f2 0 3&&(decide (t.f4.length≤4)&&asc t.f0 t.f4 none)))
noncomputable def jh (ts:List GTask)(i:Int)(t:GTask):Bool:=ex t.f0&&((ar ts t.f0==i)&&((b8 t.f1 != 0)&&(ah t.f2 0 3&&(asc t.f0 t.f4 none&&t.f4.all fun n=>decide (0≤ar ts n)))))
noncomputable def nu (ts:List GTask)(i:Int):Bool:=match am ts i with|some t=>jh ts i t|none=>false
theorem Ii {t:GTask}(h:ae.sm t):t.f0.size≤2000000:=by have:t.f0.size≤1050000:=h.1;omega
theorem Mq (t:GTask)(h:ae.sm t):qi t=some (rq t):=by
 have a:t.f4.length≤1050000:=h.2.2.1;unfold qi rq;rw[O6 (Ii h)];cases ex t.f0 with
 |false=>rfl
 |true =>
  have e:(b8 t.f1 != 0)= !(b8 t.f1==0):=rfl;rw[Pk,PJ,e];cases b8 t.f1==0 with
  |true=>rfl
  |false =>
   rw[Pt,Rr,PJ];cases ah t.f2 0 3 with
   |false=>rfl
   |true =>
    rw[Pk,PJ];by_cases q:t.f4.length≤4
    ·rw[Pg (by omega),Pt,Ph q,O6 (by omega),Mu t.f0 t.f4 a t.f4 0 t.f3 rfl,O6 rfl,PJ];cases asc t.f0 t.f4 none<;>rfl
    ·rw[Ph (by omega),Pg q];rfl
theorem HJ (ts:List GTask)(i:Int)(h:ae.sm ts)(hi:0≤i∧i<(ts.length:Int)):pi ts i=some (nu ts i):=by
 obtain⟨t,b,c⟩:=eO hi;have a:=h.2 t c;have d:t.f4.length≤1050000:=a.2.2.1;unfold pi nu jh;rw[b,O5,O6 (Ii a)];simp only;cases ex t.f0 with
 |false=>rfl
 |true =>
  have f:(ar ts t.f0 != i)= !(ar ts t.f0==i):=rfl;have e:(b8 t.f1 != 0)= !(b8 t.f1==0):=rfl;rw[Pk,PJ,O6 h.1,f,e];cases ar ts t.f0==i with
  |false=>rfl
  |true =>
   rw[Qu,Pt,PJ];cases b8 t.f1==0 with
   |true=>rfl
   |false =>
    rw[Pt,Rr,PJ];cases ah t.f2 0 3 with
    |false=>rfl
    |true =>rw[Pk,PJ,O6 (by omega),Mv ts h.1 t.f0 t.f4 d t.f4 0 t.f3 rfl,O6 rfl];cases(asc t.f0 t.f4 none&&t.f4.all fun n=>decide (0≤ar ts n))<;>rfl
theorem JV (ts:List GTask)(f:ts.length≤4)(i:Int)(t:GTask):jh ts i t=(rq t&&((ar ts t.f0==i)&&t.f4.all fun n=>decide (0≤ar ts n))):=by
 unfold jh rq;by_cases q:asc t.f0 t.f4 none=true∧(t.f4.all fun n=>decide (0≤ar ts n))=true
 ·have a:t.f4.length≤4:=by
   have:=Ij (l:=t.f4.map tx) (m:=ts.map fun u=>tx u.f0) (rC t.f0 t.f4 none q.1).1 (fun x b=>by obtain⟨n,c,rfl⟩:=Pu.1 b;have:=Ps.1 q.2 n c;obtain⟨u,d,e⟩:=HI (QN this);exact Pu.2 ⟨u,d,e⟩);simp only[PI]at this;omega
  rw[Ph a,q.1,q.2];cases ex t.f0<;>cases ar ts t.f0==i<;>cases b8 t.f1 != 0<;>cases ah t.f2 0 3<;>rfl
 ·have hf:(asc t.f0 t.f4 none&&t.f4.all fun n=>decide (0≤ar ts n))=false:=by rw[←Q1,PA];exact q
  rw[hf];revert hf;generalize (t.f4.all fun n=>decide (0≤ar ts n))=B;generalize asc t.f0 t.f4 none=A;generalize decide (t.f4.length≤4)=C;intro hf;cases A<;>cases B<;>simp at hf<;>cases ex t.f0<;>cases ar ts t.f0==i<;>cases b8 t.f1 != 0<;>cases ah t.f2 0 3<;>cases C<;>rfl
theorem p9 (x0:GTask)(h:ae.sm x0):Does E 69 [.agg (GTask.t .far x0)] [OY (rq x0)]:=by exact Jm x0 _ (Mq x0 h)
theorem xG {q0:Kd}(x0:List GTask)(a:Int)(h:ae.sm x0)(hi:0≤a∧a<(x0.length:Int)):Does E 62 [.one (.s .far () 5 (x0.map (GTask.t q0))),O0 a] [OY (nu x0 a)]:=by exact Hv x0 a _ (HJ x0 a h hi)
noncomputable def qf (x0:ByteArray):Option (Bool):=cond ((aw x0).2) (if ae.sm ((aw x0).1)then some (((bi ((aw x0).1)).1).toList==x0.toList)else none) (if ae.sm ((aw x0).1)then some (false)else none)
theorem Jc (x0:ByteArray):Ans (qf x0) (fun r=>Does E 68 [O2 x0] [OY r]):=by
 unfold qf;apply OR<;>intro b
 ·refine OT (fun a => ?_);exact OO (DP Tryz.f68 [.ret [(true,GCron.t .own ((aw x0).1)),OY true],.ret [OZ ((bi ((aw x0).1)).1),OY ((bi ((aw x0).1)).2)]] (AD (rx x0 b)<|AD (vD ((aw x0).1) a)<|AN))
 ·refine OT (fun a => ?_);exact OO (DP Tryz.f68 [.ret [(true,GCron.t .own ((aw x0).1)),OY false],.ret [OZ ((bi ((aw x0).1)).1),OY ((bi ((aw x0).1)).2)]] (AD (rx x0 b)<|AD (vD ((aw x0).1) a)<|AN))
noncomputable def jQ (s:ByteArray):Bool:=(aw s).2&&((bi (aw s).1).1.toList==s.toList)
theorem LL (s:ByteArray):qf s=some (jQ s):=by unfold qf jQ;simp only[Fv s,PK];cases(aw s).2<;>rfl
theorem jP (x0:ByteArray):Does E 68 [O2 x0] [OY (jQ x0)]:=by exact Jc x0 _ (LL x0)
inductive An where|ret (v2:Bool)|x0
def lR (q0:Kd)(a b:ByteArray)(c d:Int)(e:Bool)(f:List GTask)(v7:Int):US:=stL 74 [(1,.box () [tS a,tS b,tI c,tI d,tB e,.s .far () 5 (f.map (GTask.t q0))]),(7,O0 v7)]
def pQ (q0:Kd)(a:Bool):US:=stL 74 [(2,O1 a)]
def ri (q0:Kd)(a b:ByteArray)(c d:Int)(e:Bool)(f:List GTask):US:=stL 74 [(1,.box () [tS a,tS b,tI c,tI d,tB e,.s .far () 5 (f.map (GTask.t q0))])]
abbrev uP:US→Exit→US→Prop:=Round E 40 (av Tryz.f40 0)
def JH {q0:Kd}(a b:ByteArray)(c d:Int)(e:Bool)(f:List GTask)(v7:Int):An→Prop| .ret g=>Loops E 40 (av Tryz.f40 0) (lR q0 a b c d e f v7) .ret (pQ q0 g)| .x0=>Loops E 40 (av Tryz.f40 0) (lR q0 a b c d e f v7) (.exit 0) (ri q0 a b c d e f)
noncomputable def ke (a:List GTask):List GTask→Nat→Bool→Option An|[],i,b=>some (.x0)|hd::rest,i,b=>if ae.sm a then if 0≤(i:Int)∧(i:Int)<(a.length:Int)then cond (nu a (i:Int)) (ke a rest (i+1) b) (some (.ret false))else none else none
theorem JG {q0:Kd}(c d:ByteArray)(e f:Int)(a:List GTask)(rest:List GTask):∀(i:Nat)(b:Bool),(a).drop i=rest→a.length≤9223372036854775807→Ans (ke a rest i b) (JH (q0:=q0) c d e f b a (i:Int)):=by
 induction rest with
 |nil =>intro i b g j;have hb:=aZ g;unfold ke;exact OO (OQ (show uP (lR q0 c d e f b a (i:Int)) (.exit 0) (ri q0 c d e f b a)from RP [O3 (a.length:Int),.b false] (ALn a (GTask.t q0)<|AC hb<|AN)) (by intro h;cases h))
 |cons hd rest p =>
  intro i b g j;have hb:=aT g;have q:=aU g j;have l:=aE g;have u:=aW g;unfold ke;refine OT (fun m => ?_);refine OT (fun n => ?_);apply OR<;>intro o
  ·exact(p (i+1) b l j).mono fun y s=>by have r:uP (lR q0 c d e f b a (i:Int)) .normal (lR q0 c d e f b a (inc (i:Int))):=RP [O3 (a.length:Int),.b true,rT] (ALn a (GTask.t q0)<|AC hb<|AV (ψ:=fun k=>E.C k 62 [.one (.s .far () 5 (a.map (GTask.t q0))),O0 (i:Int)]=some [OY true]) (OU (xG a (i:Int) m n) (by rw[o]))<|AN);rw[q]at r;cases y<;>exact OP r s
  ·exact OO (OQ (show uP (lR q0 c d e f b a (i:Int)) .ret (pQ q0 false)from RP [O3 (a.length:Int),.b true,rF] (ALn a (GTask.t q0)<|AC hb<|AV (ψ:=fun k=>E.C k 62 [.one (.s .far () 5 (a.map (GTask.t q0))),O0 (i:Int)]=some [OY false]) (OU (xG a (i:Int) m n) (by rw[o]))<|AN)) (by intro h;cases h))
noncomputable def rY (x0:GDag):Option (Bool):=
  cond ((aw x0.f1).2)
   (if ae.sm ((aw x0.f1).1)then if x0.f0.size≤2000000 then cond (ex x0.f0)
    (cond (!(((bi ((aw x0.f1).1)).1).toList==x0.f1.toList))
     (some (false))
     (cond (ah x0.f3 0 68374079)
      (cond (ah x0.f2 0 x0.f3)
       (cond (ah (x0.f5.length:Int) 1 4)
        (if x0.f5.length≤9223372036854775807 then(ke x0.f5 x0.f5 0 x0.f4).bind fun y=>match y with
         | .ret a=>(some (a))
         | .x0=>(if ae.sm x0.f5 then if cG x0.f5 then some (((bW x0.f5).length:Int)==(x0.f5.length:Int))else none else none)else none)
        (some (false)))
       (some (false)))
      (some (false))))
    (some (false))else none else none)
   (if ae.sm ((aw x0.f1).1)then if x0.f0.size≤2000000 then cond (ex x0.f0)
    (some (false))
    (some (false))else none else none)
theorem Lh {q0:Kd}(x0:GDag):Ans (rY x0) (fun r=>Does E 40 [.agg (GDag.t .far q0 x0)] [OY r]):=by
 unfold rY;apply OR<;>intro f1
 ·refine OT (fun f2 => ?_);refine OT (fun f3 => ?_);apply OR<;>intro f4
  ·apply OR<;>intro a
   ·exact OO (DP Tryz.f40 [.ret [(true,GCron.t .own ((aw x0.f1).1)),OY true],.ret [OZ ((bi ((aw x0.f1).1)).1),OY ((bi ((aw x0.f1).1)).2)],rT,.b true] (AD (fc x0.f1 f1)<|AD (fd ((aw x0.f1).1) f2)<|AD (OW (cU x0.f0 f3) f4)<|AC a<|AN))
   ·apply OR<;>intro b
    ·apply OR<;>intro e
     ·apply OR<;>intro g
      ·refine OT (fun h => ?_);refine OS (fun y f => ?_);replace f:=JG (q0:=q0) x0.f0 x0.f1 x0.f2 x0.f3 x0.f5 x0.f5 0 x0.f4 rfl h y f;cases y with
       |ret c =>
        have d:=f
        (try rw[f1]at d);exact OO (DP Tryz.f40 [.ret [(true,GCron.t .own ((aw x0.f1).1)),OY true],.ret [OZ ((bi ((aw x0.f1).1)).1),OY ((bi ((aw x0.f1).1)).2)],rT,.b false,rT,rT,O3 (x0.f5.length:Int),rT,.lp .ret (pQ q0 c)] (AD (fc x0.f1 f1)<|AD (fd ((aw x0.f1).1) f2)<|AD (OW (cU x0.f0 f3) f4)<|AC a<|AD (OW (ai x0.f3 0 68374079) b)<|AD (OW (ai x0.f2 0 x0.f3) e)<|ALn x0.f5 (GTask.t q0)<|AD (OW (ai (x0.f5.length:Int) 1 4) g)<|AL d<|AN))
       |x0 =>
        have d:=f;refine OT (fun j => ?_);refine OT (fun i => ?_)
        (try rw[f1]at d);exact OO (DP Tryz.f40 [.ret [(true,GCron.t .own ((aw x0.f1).1)),OY true],.ret [OZ ((bi ((aw x0.f1).1)).1),OY ((bi ((aw x0.f1).1)).2)],rT,.b false,rT,rT,O3 (x0.f5.length:Int),rT,.lp (.exit 0) (ri q0 x0.f0 x0.f1 x0.f2 x0.f3 x0.f4 x0.f5),.ret [(false,[.s .own () 1 ((bW x0.f5).map etI)])],O3 ((bW x0.f5).length:Int),O3 (x0.f5.length:Int)] (AD (fc x0.f1 f1)<|AD (fd ((aw x0.f1).1) f2)<|AD (OW (cU x0.f0 f3) f4)<|AC a<|AD (OW (ai x0.f3 0 68374079) b)<|AD (OW (ai x0.f2 0 x0.f3) e)<|ALn x0.f5 (GTask.t q0)<|AD (OW (ai (x0.f5.length:Int) 1 4) g)<|AL d<|AV (ψ:=fun k=>E.C k 43 [.one (.s .far () 5 (x0.f5.map (GTask.t q0)))]=some [(false,[.s .own () 1 ((bW x0.f5).map etI)])]) (qD x0.f5 j i)<|ALn (bW x0.f5) etI<|ALn x0.f5 (GTask.t q0)<|AN))
      ·exact OO (DP Tryz.f40 [.ret [(true,GCron.t .own ((aw x0.f1).1)),OY true],.ret [OZ ((bi ((aw x0.f1).1)).1),OY ((bi ((aw x0.f1).1)).2)],rT,.b false,rT,rT,O3 (x0.f5.length:Int),rF] (AD (fc x0.f1 f1)<|AD (fd ((aw x0.f1).1) f2)<|AD (OW (cU x0.f0 f3) f4)<|AC a<|AD (OW (ai x0.f3 0 68374079) b)<|AD (OW (ai x0.f2 0 x0.f3) e)<|ALn x0.f5 (GTask.t q0)<|AD (OW (ai (x0.f5.length:Int) 1 4) g)<|AN))
     ·exact OO (DP Tryz.f40 [.ret [(true,GCron.t .own ((aw x0.f1).1)),OY true],.ret [OZ ((bi ((aw x0.f1).1)).1),OY ((bi ((aw x0.f1).1)).2)],rT,.b false,rT,rF] (AD (fc x0.f1 f1)<|AD (fd ((aw x0.f1).1) f2)<|AD (OW (cU x0.f0 f3) f4)<|AC a<|AD (OW (ai x0.f3 0 68374079) b)<|AD (OW (ai x0.f2 0 x0.f3) e)<|AN))
    ·exact OO (DP Tryz.f40 [.ret [(true,GCron.t .own ((aw x0.f1).1)),OY true],.ret [OZ ((bi ((aw x0.f1).1)).1),OY ((bi ((aw x0.f1).1)).2)],rT,.b false,rF] (AD (fc x0.f1 f1)<|AD (fd ((aw x0.f1).1) f2)<|AD (OW (cU x0.f0 f3) f4)<|AC a<|AD (OW (ai x0.f3 0 68374079) b)<|AN))
  ·exact OO (DP Tryz.f40 [.ret [(true,GCron.t .own ((aw x0.f1).1)),OY ((aw x0.f1).2)],.ret [OZ ((bi ((aw x0.f1).1)).1),OY ((bi ((aw x0.f1).1)).2)],rF] (AD (pB x0.f1)<|AD (fd ((aw x0.f1).1) f2)<|AD (OW (cU x0.f0 f3) f4)<|AN))
 ·refine OT (fun f5 => ?_);refine OT (fun f6 => ?_);apply OR<;>intro f7
  ·exact OO (DP Tryz.f40 [.ret [(true,GCron.t .own ((aw x0.f1).1)),OY false],.ret [OZ ((bi ((aw x0.f1).1)).1),OY ((bi ((aw x0.f1).1)).2)],rT] (AD (fc x0.f1 f1)<|AD (fd ((aw x0.f1).1) f5)<|AD (OW (cU x0.f0 f6) f7)<|AN))
  ·exact OO (DP Tryz.f40 [.ret [(true,GCron.t .own ((aw x0.f1).1)),OY ((aw x0.f1).2)],.ret [OZ ((bi ((aw x0.f1).1)).1),OY ((bi ((aw x0.f1).1)).2)],rF] (AD (pB x0.f1)<|AD (fd ((aw x0.f1).1) f5)<|AD (OW (cU x0.f0 f6) f7)<|AN))
inductive zG where|ret (v2:Bool)|x2
def lC (q0:Kd)(a b:ByteArray)(c d:Int)(e:Bool)(f g:List GTask)(h i:Int)(v59:List ByteArray)(j k:Int):US:=stL 78 [(1,.box () [tS a,tS b,tI c,tI d,tB e,.s .far () 5 (f.map (GTask.t q0))]),(40,.one (.s .far () 5 (g.map (GTask.t q0)))),(41,O0 h),(42,O0 i),(59,.one (.s .far () 1 (v59.map etS))),(60,O0 j),(61,O0 k)]
def pF (q0:Kd)(a:Bool):US:=stL 78 [(2,O1 a)]
def qQ (q0:Kd)(a b:ByteArray)(c d:Int)(e:Bool)(f g:List GTask)(h i:Int):US:=stL 78 [(1,.box () [tS a,tS b,tI c,tI d,tB e,.s .far () 5 (f.map (GTask.t q0))]),(40,.one (.s .far () 5 (g.map (GTask.t q0)))),(41,O0 h),(42,O0 i)]
abbrev uq:US→Exit→US→Prop:=Round E 47 (av Tryz.f47 1)
def I8 {q0:Kd}(a b:ByteArray)(c d:Int)(e:Bool)(f g:List GTask)(h i:Int)(v59:List ByteArray)(j k:Int):zG→Prop| .ret l=>Loops E 47 (av Tryz.f47 1) (lC q0 a b c d e f g h i v59 j k) .ret (pF q0 l)| .x2=>Loops E 47 (av Tryz.f47 1) (lC q0 a b c d e f g h i v59 j k) (.exit 2) (qQ q0 a b c d e f g h i)
noncomputable def jU (b c:ByteArray)(d e:Int)(f:List GTask):List ByteArray→Nat→Bool→Option zG|[],i,a=>some (.x2)|hd::rest,i,a=>if(GDag.mk b c d e a f).f5.length≤1050000 then cond (decide ((bL (GDag.mk b c d e a f) hd)<(0:Int))) (some (.ret false)) (jU b c d e f rest (i+1) a)else none
theorem I6 {q0:Kd}(b c:ByteArray)(d e:Int)(f g:List GTask)(j l:Int)(v59:List ByteArray)(rest:List ByteArray):∀(i:Nat)(a:Bool),(v59).drop i=rest→v59.length≤9223372036854775807→Ans (jU b c d e f rest i a) (I8 (q0:=q0) b c d e a f g j l v59 (v59.length:Int) (i:Int)):=by
 induction rest with
 |nil =>intro i a m n;have hb:=aZ m;unfold jU;exact OO (OQ (show uq (lC q0 b c d e a f g j l v59 (v59.length:Int) (i:Int)) (.exit 2) (qQ q0 b c d e a f g j l)from RP [.b false] (AC hb<|AN)) (by intro h;cases h))
 |cons hd rest u =>
  intro i a m n;have hb:=aT m;have v:=aU m n;have o:=aE m;have p:=aW m;unfold jU;refine OT (fun q => ?_);apply OR<;>intro s
  ·exact OO (OQ (show uq (lC q0 b c d e a f g j l v59 (v59.length:Int) (i:Int)) .ret (pF q0 false)from RP [.b true,.row (etS hd),.ret [OX (bL (GDag.mk b c d e a f) hd)],.b true] (AC hb<|AR etS p<|AV (ψ:=fun k=>E.C k 70 [.agg (GDag.t .far q0 (GDag.mk b c d e a f)),O2 hd]=some [OX (bL (GDag.mk b c d e a f) hd)]) (fK (GDag.mk b c d e a f) hd q)<|AC s<|AN)) (by intro h;cases h))
  ·exact(u (i+1) a o n).mono fun y w=>by have r:uq (lC q0 b c d e a f g j l v59 (v59.length:Int) (i:Int)) .normal (lC q0 b c d e a f g j l v59 (v59.length:Int) (inc (i:Int))):=RP [.b true,.row (etS hd),.ret [OX (bL (GDag.mk b c d e a f) hd)],.b false] (AC hb<|AR etS p<|AV (ψ:=fun k=>E.C k 70 [.agg (GDag.t .far q0 (GDag.mk b c d e a f)),O2 hd]=some [OX (bL (GDag.mk b c d e a f) hd)]) (fK (GDag.mk b c d e a f) hd q)<|AC s<|AN);rw[v]at r;cases y<;>exact OP r w
inductive zF where|ret (v2:Bool)|x0
def iP (q0:Kd)(a b:ByteArray)(c d:Int)(e:Bool)(f g:List GTask)(h i:Int):US:=stL 78 [(1,.box () [tS a,tS b,tI c,tI d,tB e,.s .far () 5 (f.map (GTask.t q0))]),(40,.one (.s .far () 5 (g.map (GTask.t q0)))),(41,O0 h),(42,O0 i)]
def kr (q0:Kd)(a:Bool):US:=stL 78 [(2,O1 a)]
def qP (q0:Kd)(a b:ByteArray)(c d:Int)(e:Bool)(f:List GTask):US:=stL 78 [(1,.box () [tS a,tS b,tI c,tI d,tB e,.s .far () 5 (f.map (GTask.t q0))])]
abbrev nL:US→Exit→US→Prop:=Round E 47 (av Tryz.f47 0)
def I7 {q0:Kd}(a b:ByteArray)(c d:Int)(e:Bool)(f g:List GTask)(h i:Int):zF→Prop| .ret j=>Loops E 47 (av Tryz.f47 0) (iP q0 a b c d e f g h i) .ret (kr q0 j)| .x0=>Loops E 47 (av Tryz.f47 0) (iP q0 a b c d e f g h i) (.exit 0) (qP q0 a b c d e f)
noncomputable def jT (b c:ByteArray)(d e:Int)(f:List GTask):List GTask→Nat→Bool→Option zF
 |[],i,a=>some (.x0)
 |hd::rest,i,a=>if ae.sm hd then cond (rq hd)
  (if(GDag.mk b c d e a f).f5.length≤1050000 then cond ((bL (GDag.mk b c d e a f) hd.f0) != (i:Int))
   (some (.ret false))
   (if hd.f4.length≤9223372036854775807 then(jU b c d e f hd.f4 0 a).bind fun y=>match y with
    | .ret g=>(some (.ret g))
    | .x2=>(jT b c d e f rest (i+1) a)else none)else none)
  (some (.ret false))else none
theorem I5 {q0:Kd}(b c:ByteArray)(d e:Int)(f g:List GTask)(rest:List GTask):∀(i:Nat)(a:Bool),(g).drop i=rest→g.length≤9223372036854775807→Ans (jT b c d e f rest i a) (I7 (q0:=q0) b c d e a f g (g.length:Int) (i:Int)):=by
 induction rest with
 |nil =>intro i a l q;have hb:=aZ l;unfold jT;exact OO (OQ (show nL (iP q0 b c d e a f g (g.length:Int) (i:Int)) (.exit 0) (qP q0 b c d e a f)from RP [.b false] (AC hb<|AN)) (by intro h;cases h))
 |cons hd rest z =>
  intro i a l q;have hb:=aT l;have A:=aU l q;have s:=aE l;have n:=aW l;unfold jT;refine OT (fun o => ?_);apply OR<;>intro p
  ·refine OT (fun u => ?_);apply OR<;>intro v
   ·exact OO (OQ (show nL (iP q0 b c d e a f g (g.length:Int) (i:Int)) .ret (kr q0 false)from RP [.b true,.row ((GTask.t q0) hd),rT,.ret [OX (bL (GDag.mk b c d e a f) hd.f0)],.b true] (AC hb<|AR (GTask.t q0) n<|AD (OW (p9 hd o) p)<|AV (ψ:=fun k=>E.C k 70 [.agg (GDag.t .far q0 (GDag.mk b c d e a f)),O2 hd.f0]=some [OX (bL (GDag.mk b c d e a f) hd.f0)]) (fK (GDag.mk b c d e a f) hd.f0 u)<|AC v<|AN)) (by intro h;cases h))
   ·refine OT (fun w => ?_);refine OS (fun y m => ?_);replace m:=I6 (q0:=q0) b c d e f g (g.length:Int) (i:Int) hd.f4 hd.f4 0 a rfl w y m;cases y with
    |ret j =>have x:=m;exact OO (OQ (show nL (iP q0 b c d e a f g (g.length:Int) (i:Int)) .ret (kr q0 j)from RP [.b true,.row ((GTask.t q0) hd),rT,.ret [OX (bL (GDag.mk b c d e a f) hd.f0)],.b false,O3 (hd.f4.length:Int),.lp .ret (pF q0 j)] (AC hb<|AR (GTask.t q0) n<|AD (OW (p9 hd o) p)<|AV (ψ:=fun k=>E.C k 70 [.agg (GDag.t .far q0 (GDag.mk b c d e a f)),O2 hd.f0]=some [OX (bL (GDag.mk b c d e a f) hd.f0)]) (fK (GDag.mk b c d e a f) hd.f0 u)<|AC v<|ALn hd.f4 etS<|AL x<|AN)) (by intro h;cases h))
    |x2 =>have x:=m;exact(z (i+1) a s q).mono fun y m=>by have r:nL (iP q0 b c d e a f g (g.length:Int) (i:Int)) .normal (iP q0 b c d e a f g (g.length:Int) (inc (i:Int))):=RP [.b true,.row ((GTask.t q0) hd),rT,.ret [OX (bL (GDag.mk b c d e a f) hd.f0)],.b false,O3 (hd.f4.length:Int),.lp (.exit 2) (qQ q0 b c d e a f g (g.length:Int) (i:Int))] (AC hb<|AR (GTask.t q0) n<|AD (OW (p9 hd o) p)<|AV (ψ:=fun k=>E.C k 70 [.agg (GDag.t .far q0 (GDag.mk b c d e a f)),O2 hd.f0]=some [OX (bL (GDag.mk b c d e a f) hd.f0)]) (fK (GDag.mk b c d e a f) hd.f0 u)<|AC v<|ALn hd.f4 etS<|AL x<|AN);rw[A]at r;cases y<;>exact OP r m
  ·exact OO (OQ (show nL (iP q0 b c d e a f g (g.length:Int) (i:Int)) .ret (kr q0 false)from RP [.b true,.row ((GTask.t q0) hd),rF] (AC hb<|AR (GTask.t q0) n<|AD (OW (p9 hd o) p)<|AN)) (by intro h;cases h))
noncomputable def rI (x0:GDag):Option (Bool):=
  if x0.f0.size≤2000000 then cond (ex x0.f0)
   (cond (jQ x0.f1)
    (cond (decide (x0.f2<(0:Int)))
     (some (false))
     (cond (decide (x0.f2>x0.f3))
      (some (false))
      (cond (decide (x0.f3>(68374079:Int)))
       (some (false))
       (cond (ah (x0.f5.length:Int) 1 4)
        (if x0.f5.length≤9223372036854775807 then(jT x0.f0 x0.f1 x0.f2 x0.f3 x0.f5 x0.f5 0 x0.f4).bind fun y=>match y with
         | .ret a=>(some (a))
         | .x0=>(if ae.sm x0 then if cG x0.f5 then some (((cn x0).length:Int)==(x0.f5.length:Int))else none else none)else none)
        (some (false))))))
    (some (false)))
   (some (false))else none
theorem KE {q0:Kd}(x0:GDag):Ans (rI x0) (fun r=>Does E 47 [.agg (GDag.t .far q0 x0)] [OY r]):=by
 unfold rI;refine OT (fun a => ?_);apply OR<;>intro b
 ·apply OR<;>intro c
  ·apply OR<;>intro d
   ·exact OO (DP Tryz.f47 [rT,rT,.b true] (AD (OW (dr x0.f0 a) b)<|AD (OW (jP x0.f1) c)<|AC d<|AN))
   ·apply OR<;>intro e
    ·exact OO (DP Tryz.f47 [rT,rT,.b false,.b true] (AD (OW (dr x0.f0 a) b)<|AD (OW (jP x0.f1) c)<|AC d<|AC e<|AN))
    ·apply OR<;>intro g
     ·exact OO (DP Tryz.f47 [rT,rT,.b false,.b false,.b true] (AD (OW (dr x0.f0 a) b)<|AD (OW (jP x0.f1) c)<|AC d<|AC e<|AC g<|AN))
     ·apply OR<;>intro i
      ·refine OT (fun j => ?_);refine OS (fun y h => ?_);replace h:=I5 (q0:=q0) x0.f0 x0.f1 x0.f2 x0.f3 x0.f5 x0.f5 x0.f5 0 x0.f4 rfl j y h;cases y with
       |ret f =>have l:=h;exact OO (DP Tryz.f47 [rT,rT,.b false,.b false,.b false,O3 (x0.f5.length:Int),rT,O3 (x0.f5.length:Int),.lp .ret (kr q0 f)] (AD (OW (dr x0.f0 a) b)<|AD (OW (jP x0.f1) c)<|AC d<|AC e<|AC g<|ALn x0.f5 (GTask.t q0)<|AD (OW (aA (x0.f5.length:Int) 1 4) i)<|ALn x0.f5 (GTask.t q0)<|AL l<|AN))
       |x0 =>have l:=h;refine OT (fun m => ?_);refine OT (fun n => ?_);exact OO (DP Tryz.f47 [rT,rT,.b false,.b false,.b false,O3 (x0.f5.length:Int),rT,O3 (x0.f5.length:Int),.lp (.exit 0) (qP q0 x0.f0 x0.f1 x0.f2 x0.f3 x0.f4 x0.f5),.ret [(false,[.s .own () 1 ((cn x0).map etI)])],O3 ((cn x0).length:Int),O3 (x0.f5.length:Int)] (AD (OW (dr x0.f0 a) b)<|AD (OW (jP x0.f1) c)<|AC d<|AC e<|AC g<|ALn x0.f5 (GTask.t q0)<|AD (OW (aA (x0.f5.length:Int) 1 4) i)<|ALn x0.f5 (GTask.t q0)<|AL l<|AV (ψ:=fun k=>E.C k 50 [.agg (GDag.t .far q0 x0)]=some [(false,[.s .own () 1 ((cn x0).map etI)])]) (sb x0 m n)<|ALn (cn x0) etI<|ALn x0.f5 (GTask.t q0)<|AN))
      ·exact OO (DP Tryz.f47 [rT,rT,.b false,.b false,.b false,O3 (x0.f5.length:Int),rF] (AD (OW (dr x0.f0 a) b)<|AD (OW (jP x0.f1) c)<|AC d<|AC e<|AC g<|ALn x0.f5 (GTask.t q0)<|AD (OW (aA (x0.f5.length:Int) 1 4) i)<|AN))
  ·exact OO (DP Tryz.f47 [rT,rF] (AD (OW (dr x0.f0 a) b)<|AD (OW (jP x0.f1) c)<|AN))
 ·exact OO (DP Tryz.f47 [rF] (AD (OW (dr x0.f0 a) b)<|AN))
noncomputable def eh (ts:List GTask):List GTask→Nat→Bool|[],_=>true|t::r,i=>jh ts (i:Int) t&&eh ts r (i+1)
noncomputable def aN (d:GDag):Bool :=ex d.f0&&(jQ d.f1&&(ah d.f3 0 68374079&&(ah d.f2 0 d.f3&&(ah (d.f5.length:Int) 1 4&&(eh d.f5 d.f5 0&&((bW d.f5).length:Int)==(d.f5.length:Int))))))
theorem uJ (ts:List GTask):∀(rest:List GTask)(i:Nat),ts.drop i=rest→eh ts rest i=true→∀(k:Nat)(t:GTask),i≤k→ts[k]?=some t→jh ts (k:Int) t=true
 |[],i,h,_,k,t,c,a=>by have:ts.length≤i:=List.drop_eq_nil_iff.1 h;rw[Pc (by omega)]at a;cases a
 |x::rest,i,h,b,k,t,c,a=>by
  unfold eh at b;rw[PA]at b;by_cases e:k=i
  ·subst e;have:ts[k]?=some x:=by rw[←Rg,h];rfl
   rw[this]at a;cases a;exact b.1
  ·exact uJ ts rest (i+1) (aE h) b.2 k t (by omega) a
theorem up {ts:List GTask}(a:ts.length≤4)(h:eh ts ts 0=true):cG ts:=by refine⟨a,fun i t b => ?_⟩;have:=uJ ts ts 0 rfl h i t (Rp _) b;unfold jh at this;simp only[PA,QM]at this;exact this.2.1
theorem Ke (ts:List GTask)(hs:ae.sm ts):∀(rest:List GTask)(i:Nat)(z:Bool),ts.drop i=rest→ke ts rest i z=some (cond (eh ts rest i) .x0 (.ret false))
 |[],i,z,_=>rfl
 |x::rest,i,z,h=>by
  have hi:=mq h;have a:=aW h;have e:nu ts (i:Int)=jh ts (i:Int) x:=by unfold nu;rw[a]
  unfold ke eh;rw[Ke ts hs rest (i+1) z (aE h),O6 hs,O6 (by omega),e];cases jh ts (i:Int) x<;>rfl
theorem NJ (d:GDag)(h:ae.sm d):rY d=some (aN d):=by
 have hs:ae.sm d.f5:=h.2.2;have a:d.f0.size≤2000000:=by have:d.f0.size≤1050000:=h.1;omega
 unfold rY aN jQ;simp only[a,Fv,PK];cases(aw d.f1).2 with
 |false=>cases ex d.f0<;>rfl
 |true =>
  rw[Pk];cases ex d.f0 with
  |false=>rfl
  |true =>
   rw[Pk,PJ,PJ];cases(bi (aw d.f1).1).1.toList==d.f1.toList with
   |false=>rfl
   |true =>
    rw[Qu,Pt,PJ];cases ah d.f3 0 68374079 with
    |false=>rfl
    |true =>
     rw[Pk,PJ];cases ah d.f2 0 d.f3 with
     |false=>rfl
     |true =>
      rw[Pk,PJ];cases q:ah (d.f5.length:Int) 1 4 with
      |false=>rfl
      |true =>
       have b:d.f5.length≤4:=by unfold ah at q;simp at q;omega
       rw[Pk,PJ,O6 (by omega),Ke d.f5 hs d.f5 0 d.f4 rfl];cases w:eh d.f5 d.f5 0 with
       |false=>rfl
       |true =>rw[Pk,O5,PJ];simp only;rw[O6 hs,O6 (up b w)]
theorem Kc (a b:ByteArray)(c e:Int)(ts:List GTask)(d:ts.length≤1050000):∀(l:List ByteArray)(i:Nat)(z:Bool),jU a b c e ts l i z=some (cond (l.all fun n=>decide (0≤ar ts n)) .x2 (.ret false))
 |[],i,z=>rfl
 |n::l,i,z=>by
  unfold jU;rw[O6 (show(GDag.mk a b c e z ts).f5.length≤1050000 from d),Kc a b c e ts d l (i+1) z,QJ];show cond (decide (ar ts n<0)) _ _=_;by_cases w:ar ts n<0
  ·rw[Ph w,Pg (by omega:¬ 0≤ar ts n)];rfl
  ·rw[Pg w,Ph (by omega:0≤ar ts n)];rfl
theorem Kb (a b:ByteArray)(c e:Int)(ts:List GTask)(hs:ae.sm ts)(d:ts.length≤4):∀(l:List GTask)(i:Nat)(z:Bool),(∀y∈l,ae.sm y)→jT a b c e ts l i z=some (cond (eh ts l i) .x0 (.ret false))
 |[],i,z,_=>rfl
 |t::l,i,z,f=>by have g:=f t (by simp);have hf:t.f4.length≤1050000:=g.2.2.1;unfold jT eh;rw[O6 g,O6 (show(GDag.mk a b c e z ts).f5.length≤1050000 from hs.1),O6 (by omega),Kc a b c e ts hs.1,Kb a b c e ts hs d l (i+1) z (fun y h=>f y (by simp[h])),JV ts d];have j:(bL (GDag.mk a b c e z ts) t.f0 != (i:Int))= !(ar ts t.f0==(i:Int)):=rfl;rw[j];cases rq t<;>cases ar ts t.f0==(i:Int)<;>cases(t.f4.all fun n=>decide (0≤ar ts n))<;>cases eh ts l (i+1)<;>rfl
theorem NI (d:GDag)(h:ae.sm d):rI d=some (aN d):=by
 have hs:ae.sm d.f5:=h.2.2;have e:d.f0.size≤2000000:=by have:d.f0.size≤1050000:=h.1;omega
 unfold rI aN;rw[O6 e];cases ex d.f0 with
 |false=>rfl
 |true =>
  rw[Pk,PJ];cases jQ d.f1 with
  |false=>rfl
  |true =>
   rw[Pk,PJ];by_cases w0:d.f2<0
   ·have:ah d.f2 0 d.f3=false:=by unfold ah;rw[Pg (by omega)];rfl
    rw[Ph w0,this,Rq,Q2];rfl
   ·rw[Pg w0,Pt];by_cases a:d.f2>d.f3
    ·have:ah d.f2 0 d.f3=false:=by unfold ah;rw[Pg (by omega:¬d.f2≤d.f3),Q2]
     rw[Ph a,this,Rq,Q2];rfl
    ·rw[Pg a,Pt];have f:ah d.f2 0 d.f3=true:=by unfold ah;rw[Ph (by omega),Ph (by omega)];rfl
     by_cases b:d.f3>68374079
     ·have:ah d.f3 0 68374079=false:=by unfold ah;rw[Pg (by omega:¬d.f3≤68374079),Q2]
      rw[Ph b,this,Rq];rfl
     ·have g:ah d.f3 0 68374079=true:=by unfold ah;rw[Ph (by omega),Ph (by omega)];rfl
      rw[Pg b,Pt,f,g,PJ,PJ];cases q:ah (d.f5.length:Int) 1 4 with
      |false=>rfl
      |true =>
       have c:d.f5.length≤4:=by unfold ah at q;simp at q;omega
       rw[Pk,PJ,O6 (by omega),Kb d.f0 d.f1 d.f2 d.f3 d.f5 hs c d.f5 0 d.f4 hs.2];cases w:eh d.f5 d.f5 0 with
       |false=>rfl
       |true =>rw[Pk,O5,PJ];simp only;rw[O6 h,O6 (up c w)];rfl
theorem jJ {q0:Kd}(x0:GDag)(h:ae.sm x0):Does E 40 [.agg (GDag.t .far q0 x0)] [OY (aN x0)]:=by exact Lh x0 _ (NJ x0 h)
theorem B8 {q0:Kd}(x0:GDag)(h:ae.sm x0):Does E 47 [.agg (GDag.t .far q0 x0)] [OY (aN x0)]:=by exact KE x0 _ (NI x0 h)
end
end Go.Proofs.YtjlkcjlcmaoccaaGreatDoor.Am
