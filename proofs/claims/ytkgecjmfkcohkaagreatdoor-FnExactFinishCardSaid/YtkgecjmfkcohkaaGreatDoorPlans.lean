/- Plans. -/
import Derived.Test.YtkgecjmfkcohkaaGreatDoorRules
namespace Go.Proofs.YtkgecjmfkcohkaaGreatDoor.Am
open Go
set_option linter.unusedVariables false
set_option linter.unusedSimpArgs false
section
open Go.Proofs Classical
set_option maxRecDepth 100000
inductive xz where|ret (v2:Bool)|x0
def de (v0:ByteArray)(v3:Int):US:=stL 46 [(0,N1 v0),(3,NZ v3)]
def gV (a:Bool):US:=stL 46 [(2,N0 a)]
def pf  : US:=stL 46 []
abbrev gN:US→Exit→US→Prop:=Round E 56 (aw Tryz.f56 0)
def Gp (v0:ByteArray)(v3:Int):xz→Prop| .ret a=>Loops E 56 (aw Tryz.f56 0) (de v0 v3) .ret (gV a)| .x0=>Loops E 56 (aw Tryz.f56 0) (de v0 v3) (.exit 0) (pf)
noncomputable def fI  : List Int→Nat→Option xz|[],i=>some (.x0)|hd::rest,i=>cond (decide (hd<(97:Int))) (cond (decide (hd<(48:Int))) (some (.ret false)) (cond (decide (hd>(57:Int))) (some (.ret false)) (fI rest (i+1)))) (cond (decide (hd>(122:Int))) (cond (decide (hd<(48:Int))) (some (.ret false)) (cond (decide (hd>(57:Int))) (some (.ret false)) (fI rest (i+1)))) (fI rest (i+1)))
theorem Gn (v0:ByteArray)(rest:List Int):∀(i:Nat) ,(bY v0).drop i=rest→v0.size≤9223372036854775807→Ans (fI rest i) (Gp v0 (i:Int)):=by
 induction rest with
 |nil =>intro i c g;have hb:=qe c;unfold fI;exact NN (NP (show gN (de v0 (i:Int)) (.exit 0) (pf)from RP [.b false] (AC hb<|AN)) (by intro h;cases h))
 |cons hd rest k =>
  intro i c g;have hb:=oL c;have l:=oM c g;have d:=aG c;have a:=sr c;obtain rfl:=sq c;unfold fI;apply NQ<;>intro e
  ·apply NQ<;>intro b
   ·exact NN (NP (show gN (de v0 (i:Int)) .ret (gV false)from RP [.b true,.b true,.b true] (AC hb<|AC a<|AC e<|AC a<|AC b<|AN)) (by intro h;cases h))
   ·apply NQ<;>intro f
    ·exact NN (NP (show gN (de v0 (i:Int)) .ret (gV false)from RP [.b true,.b true,.b false,.b true] (AC hb<|AC a<|AC e<|AC a<|AC b<|AC a<|AC f<|AN)) (by intro h;cases h))
    ·exact(k (i+1) d g).mono fun y j=>by have r:gN (de v0 (i:Int)) .normal (de v0 (inc (i:Int))):=RP [.b true,.b true,.b false,.b false] (AC hb<|AC a<|AC e<|AC a<|AC b<|AC a<|AC f<|AN);rw[l]at r;cases y<;>exact NO r j
  ·apply NQ<;>intro b
   ·apply NQ<;>intro f
    ·exact NN (NP (show gN (de v0 (i:Int)) .ret (gV false)from RP [.b true,.b false,.b true,.b true] (AC hb<|AC a<|AC e<|AC a<|AC b<|AC a<|AC f<|AN)) (by intro h;cases h))
    ·apply NQ<;>intro m
     ·exact NN (NP (show gN (de v0 (i:Int)) .ret (gV false)from RP [.b true,.b false,.b true,.b false,.b true] (AC hb<|AC a<|AC e<|AC a<|AC b<|AC a<|AC f<|AC a<|AC m<|AN)) (by intro h;cases h))
     ·exact(k (i+1) d g).mono fun y j=>by have r:gN (de v0 (i:Int)) .normal (de v0 (inc (i:Int))):=RP [.b true,.b false,.b true,.b false,.b false] (AC hb<|AC a<|AC e<|AC a<|AC b<|AC a<|AC f<|AC a<|AC m<|AN);rw[l]at r;cases y<;>exact NO r j
   ·exact(k (i+1) d g).mono fun y j=>by have r:gN (de v0 (i:Int)) .normal (de v0 (inc (i:Int))):=RP [.b true,.b false,.b false] (AC hb<|AC a<|AC e<|AC a<|AC b<|AN);rw[l]at r;cases y<;>exact NO r j
noncomputable def pL (x0:ByteArray):Option (Bool):=
  cond (ag (x0.size:Int) 1 8)
   (if 0≤(0:Int)∧(0:Int)<(x0.size:Int)then cond (decide ((gz x0 (0:Int))<(97:Int)))
    (some (false))
    (cond (decide ((gz x0 (0:Int))>(122:Int)))
     (some (false))
     (if x0.size≤9223372036854775807 then(fI (bY x0) 0).bind fun y=>match y with
      | .ret a=>(some (a))
      | .x0=>(some (true))else none))else none)
   (some (false))
theorem IC (x0:ByteArray):Ans (pL x0) (fun r=>Does E 56 [N1 x0] [NX r]):=by
 unfold pL;apply NQ<;>intro b
 ·refine NS (fun a => ?_);apply NQ<;>intro d
  ·exact NN (DP Tryz.f56 [rT,.b true] (AD (NV (ah (x0.size:Int) 1 8) b)<|AC a<|AC d<|AN))
  ·apply NQ<;>intro f
   ·exact NN (DP Tryz.f56 [rT,.b false,.b true] (AD (NV (ah (x0.size:Int) 1 8) b)<|AC a<|AC d<|AC a<|AC f<|AN))
   ·refine NS (fun g => ?_);refine NR (fun y e => ?_);replace e:=Gn x0 (bY x0) 0 rfl g y e;cases y with
    |ret c =>have h:=e;exact NN (DP Tryz.f56 [rT,.b false,.b false,.lp .ret (gV c)] (AD (NV (ah (x0.size:Int) 1 8) b)<|AC a<|AC d<|AC a<|AC f<|AL h<|AN))
    |x0 =>have h:=e;exact NN (DP Tryz.f56 [rT,.b false,.b false,.lp (.exit 0) (pf)] (AD (NV (ah (x0.size:Int) 1 8) b)<|AC a<|AC d<|AC a<|AC f<|AL h<|AN))
 ·exact NN (DP Tryz.f56 [rF] (AD (NV (ah (x0.size:Int) 1 8) b)<|AN))
inductive xh where|ret (v2:Bool)|x0
def cr (v0:ByteArray)(v3:Int):US:=stL 42 [(0,N1 v0),(3,NZ v3)]
def eI (a:Bool):US:=stL 42 [(2,N0 a)]
def oX (v0:ByteArray):US:=stL 42 [(0,N1 v0)]
abbrev eS:US→Exit→US→Prop:=Round E 63 (aw Tryz.f63 0)
def FV (v0:ByteArray)(v3:Int):xh→Prop| .ret a=>Loops E 63 (aw Tryz.f63 0) (cr v0 v3) .ret (eI a)| .x0=>Loops E 63 (aw Tryz.f63 0) (cr v0 v3) (.exit 0) (oX v0)
noncomputable def eT  : List Int→Nat→Option xh|[],i=>some (.x0)|hd::rest,i=>cond (decide (hd≥(97:Int))) (cond (decide (hd≤(122:Int))) (eT rest (i+1)) (cond ((i:Int)==(0:Int)) (some (.ret false)) (cond (decide (hd<(48:Int))) (some (.ret false)) (cond (decide (hd>(57:Int))) (some (.ret false)) (eT rest (i+1)))))) (cond ((i:Int)==(0:Int)) (some (.ret false)) (cond (decide (hd<(48:Int))) (some (.ret false)) (cond (decide (hd>(57:Int))) (some (.ret false)) (eT rest (i+1)))))
theorem FU (v0:ByteArray)(rest:List Int):∀(i:Nat) ,(bY v0).drop i=rest→v0.size≤9223372036854775807→Ans (eT rest i) (FV v0 (i:Int)):=by
 induction rest with
 |nil =>intro i e j;have hb:=qe e;unfold eT;exact NN (NP (show eS (cr v0 (i:Int)) (.exit 0) (oX v0)from RP [.b false] (AC hb<|AN)) (by intro h;cases h))
 |cons hd rest l =>
  intro i e j;have hb:=oL e;have m:=oM e j;have f:=aG e;have a:=sr e;obtain rfl:=sq e;unfold eT;apply NQ<;>intro c
  ·apply NQ<;>intro b
   ·exact(l (i+1) f j).mono fun y k=>by have r:eS (cr v0 (i:Int)) .normal (cr v0 (inc (i:Int))):=RP [.b true,.b true,.b true] (AC hb<|AC a<|AC c<|AC a<|AC b<|AN);rw[m]at r;cases y<;>exact NO r k
   ·apply NQ<;>intro d
    ·exact NN (NP (show eS (cr v0 (i:Int)) .ret (eI false)from RP [.b true,.b true,.b false,.b true] (AC hb<|AC a<|AC c<|AC a<|AC b<|AC d<|AN)) (by intro h;cases h))
    ·apply NQ<;>intro g
     ·exact NN (NP (show eS (cr v0 (i:Int)) .ret (eI false)from RP [.b true,.b true,.b false,.b false,.b true] (AC hb<|AC a<|AC c<|AC a<|AC b<|AC d<|AC a<|AC g<|AN)) (by intro h;cases h))
     ·apply NQ<;>intro n
      ·exact NN (NP (show eS (cr v0 (i:Int)) .ret (eI false)from RP [.b true,.b true,.b false,.b false,.b false,.b true] (AC hb<|AC a<|AC c<|AC a<|AC b<|AC d<|AC a<|AC g<|AC a<|AC n<|AN)) (by intro h;cases h))
      ·exact(l (i+1) f j).mono fun y k=>by have r:eS (cr v0 (i:Int)) .normal (cr v0 (inc (i:Int))):=RP [.b true,.b true,.b false,.b false,.b false,.b false] (AC hb<|AC a<|AC c<|AC a<|AC b<|AC d<|AC a<|AC g<|AC a<|AC n<|AN);rw[m]at r;cases y<;>exact NO r k
  ·apply NQ<;>intro b
   ·exact NN (NP (show eS (cr v0 (i:Int)) .ret (eI false)from RP [.b true,.b false,.b true] (AC hb<|AC a<|AC c<|AC b<|AN)) (by intro h;cases h))
   ·apply NQ<;>intro d
    ·exact NN (NP (show eS (cr v0 (i:Int)) .ret (eI false)from RP [.b true,.b false,.b false,.b true] (AC hb<|AC a<|AC c<|AC b<|AC a<|AC d<|AN)) (by intro h;cases h))
    ·apply NQ<;>intro g
     ·exact NN (NP (show eS (cr v0 (i:Int)) .ret (eI false)from RP [.b true,.b false,.b false,.b false,.b true] (AC hb<|AC a<|AC c<|AC b<|AC a<|AC d<|AC a<|AC g<|AN)) (by intro h;cases h))
     ·exact(l (i+1) f j).mono fun y k=>by have r:eS (cr v0 (i:Int)) .normal (cr v0 (inc (i:Int))):=RP [.b true,.b false,.b false,.b false,.b false] (AC hb<|AC a<|AC c<|AC b<|AC a<|AC d<|AC a<|AC g<|AN);rw[m]at r;cases y<;>exact NO r k
noncomputable def pA (x0:ByteArray):Option (Bool):=
  if x0.size≤9223372036854775807 then(eT (bY x0) 0).bind fun y=>match y with
   | .ret a=>(some (a))
   | .x0=>(some (ag (x0.size:Int) 1 8))else none
theorem H5 (x0:ByteArray):Ans (pA x0) (fun r=>Does E 63 [N1 x0] [NX r]):=by
 unfold pA;refine NS (fun c => ?_);refine NR (fun y b => ?_);replace b:=FU x0 (bY x0) 0 rfl c y b;cases y with
 |ret a =>have d:=b;exact NN (DP Tryz.f63 [.lp .ret (eI a)] (AL d<|AN))
 |x0 =>have d:=b;exact NN (DP Tryz.f63 [.lp (.exit 0) (oX x0),.ret [NX (ag (x0.size:Int) 1 8)]] (AL d<|AD (ay (x0.size:Int) 1 (8:Int))<|AN))
def rM (h:Int):Bool:=decide (97≤h∧h≤122)
def lfI (h:Int):Bool:=decide (97≤h∧h≤122∨48≤h∧h≤57)
def LB:List Int→Bool|[]=>true|h::l=>rM h&&l.all lfI
def ef (s:ByteArray):Bool:=ag (s.size:Int) 1 8&&LB (bY s)
theorem Mt {α:Type}(h:Int)(A B:α):cond (decide (h<97)) (cond (decide (h<48)) A (cond (decide (h>57)) A B)) (cond (decide (h>122)) (cond (decide (h<48)) A (cond (decide (h>57)) A B)) B)=cond (lfI h) B A:=by
 unfold lfI;simp only[Qx];repeat' split
 all_goals first|rfl|(exfalso;omega)
theorem LZ {α:Type}(h:Int)(A B:α):cond (decide (h≥97)) (cond (decide (h≤122)) B (cond (decide (h<48)) A (cond (decide (h>57)) A B))) (cond (decide (h<48)) A (cond (decide (h>57)) A B))=cond (lfI h) B A:=by
 unfold lfI;simp only[Qx];repeat' split
 all_goals first|rfl|(exfalso;omega)
theorem LY {α:Type}(h:Int)(A B:α):cond (decide (h≥97)) (cond (decide (h≤122)) B A) A=cond (rM h) B A:=by
 unfold rM;simp only[Qx];repeat' split
 all_goals first|rfl|(exfalso;omega)
theorem Ms {h:Int}(q:rM h=true):lfI h=true:=by unfold rM at q;unfold lfI;simp only[O4]at q ⊢;exact .inl q
theorem G7:∀(l:List Int)(i:Nat),fI l i=some (cond (l.all lfI) .x0 (.ret false))
 |[],i=>rfl
 |h::l,i=>by unfold fI;rw[G7 l (i+1),PH,Mt];cases lfI h<;>rfl
theorem G6:∀(l:List Int)(i:Nat),eT l (i+1)=some (cond (l.all lfI) .x0 (.ret false))
 |[],i=>rfl
 |h::l,i=>by
  unfold eT;have e:(((i+1:Nat):Int)==0)=false:=by rw[O3];omega
  rw[G6 l (i+1),PH,e];simp only[Ou];rw[LZ];cases lfI h<;>rfl
theorem Mx (s:ByteArray)(hs:s.size≤2000000):pL s=some (ef s):=by
 unfold pL ef;cases q:ag (s.size:Int) 1 8 with
 |false=>rfl
 |true =>
  have c:1≤(s.size:Int)∧(s.size:Int)≤8:=by unfold ag at q;simpa using q
  rw[Om,N5 (by omega),N5 (by omega),OG,G7];have a:=rX s 0 (by omega);cases e:bY s with
  |nil=>rw[e]at a;cases a
  |cons h l =>
   rw[e]at a;have hb:h=gz s (0:Int):=P4 a;rw[←hb];show _=some (rM h&&l.all lfI);rw[PH];have k:∀(X:Option Bool),cond (decide (h<97)) (some false) (cond (decide (h>122)) (some false) X)=cond (rM h) X (some false):=fun X=>by
    unfold rM;simp only[Qx];repeat' split
    all_goals first|rfl|(exfalso;omega)
   rw[k];cases b:rM h with
   |false=>rfl
   |true =>rw[Ms b];cases l.all lfI<;>rfl
theorem Mw (s:ByteArray)(hs:s.size≤2000000):pA s=some (ef s):=by
 unfold pA ef;rw[N5 (by omega)];cases e:bY s with
 |nil =>show some (ag (s.size:Int) 1 8)=some (ag (s.size:Int) 1 8&&true);rw[Bool.and_true]
 |cons h l =>
  unfold eT LB;have a:(((0:Nat):Int)==0)=true:=rfl;rw[G6 l 0,a];simp only[Om];rw[LY];cases rM h with
  |false=>rw[Qo,P1];rfl
  |true =>
   rw[Om,OG,N4];cases l.all lfI with
   |false=>rw[P1];rfl
   |true=>rw[Bool.and_true];rfl
theorem cQ (x0:ByteArray)(h:x0.size≤2000000):Does E 56 [N1 x0] [NX (ef x0)]:=by exact IC x0 _ (Mx x0 h)
theorem dj (x0:ByteArray)(h:x0.size≤2000000):Does E 63 [N1 x0] [NX (ef x0)]:=by exact H5 x0 _ (Mw x0 h)
noncomputable def kN (x0:ByteArray):Option (Int):=cond (x0.toList==(⟨#[111,110,101]⟩:ByteArray).toList) (some (1)) (cond (x0.toList==(⟨#[116,119,111]⟩:ByteArray).toList) (some (2)) (cond (x0.toList==(⟨#[119,105,100,101]⟩:ByteArray).toList) (some (4)) (some (0))))
theorem ER (x0:ByteArray):Ans (kN x0) (fun r=>Does E 77 [N1 x0] [NW r]):=by
 unfold kN;apply NQ<;>intro a
 ·exact NN (DP Tryz.f77 [.b true] (AC a<|AN))
 ·apply NQ<;>intro b
  ·exact NN (DP Tryz.f77 [.b false,.b true] (AC a<|AC b<|AN))
  ·apply NQ<;>intro c
   ·exact NN (DP Tryz.f77 [.b false,.b false,.b true] (AC a<|AC b<|AC c<|AN))
   ·exact NN (DP Tryz.f77 [.b false,.b false,.b false] (AC a<|AC b<|AC c<|AN))
noncomputable def vz (x0:ByteArray):Option (Int):=cond (x0.toList==(⟨#[111,110,101]⟩:ByteArray).toList) (some (1)) (cond (x0.toList==(⟨#[116,119,111]⟩:ByteArray).toList) (some (2)) (cond (x0.toList==(⟨#[119,105,100,101]⟩:ByteArray).toList) (some (4)) (some (0))))
theorem DS (x0:ByteArray):Ans (vz x0) (fun r=>Does E 80 [N1 x0] [NW r]):=by
 unfold vz;apply NQ<;>intro a
 ·exact NN (DP Tryz.f80 [.b true] (AC a<|AN))
 ·apply NQ<;>intro b
  ·exact NN (DP Tryz.f80 [.b false,.b true] (AC a<|AC b<|AN))
  ·apply NQ<;>intro c
   ·exact NN (DP Tryz.f80 [.b false,.b false,.b true] (AC a<|AC b<|AC c<|AN))
   ·exact NN (DP Tryz.f80 [.b false,.b false,.b false] (AC a<|AC b<|AC c<|AN))
noncomputable def b8 (s:ByteArray):Int:=(kN s).getD 0
theorem ED (s:ByteArray):kN s=some (b8 s):=by refine Tot.getD ?_ _;unfold kN;repeat' (first|exact Tot.some _|apply Tot.cond)
theorem mT (x0:ByteArray):Does E 77 [N1 x0] [NW (b8 x0)]:=by exact ER x0 _ (ED x0)
theorem ky (x0:ByteArray):Does E 80 [N1 x0] [NW (b8 x0)]:=by exact DS x0 _ (ED x0)
inductive zx where|ret (v4:Int)|x0
def lr (q0:Kd)(v0:List GTask)(v1:ByteArray)(v5:Int):US:=stL 20 [(0,.one (.s .far () 5 (v0.map (GTask.t q0)))),(1,N1 v1),(5,NZ v5)]
def pk (q0:Kd)(a:Int):US:=stL 20 [(4,NZ a)]
def qE (q0:Kd)  : US:=stL 20 []
abbrev ud:US→Exit→US→Prop:=Round E 60 (aw Tryz.f60 0)
def IG {q0:Kd}(v0:List GTask)(v1:ByteArray)(v5:Int):zx→Prop| .ret a=>Loops E 60 (aw Tryz.f60 0) (lr q0 v0 v1 v5) .ret (pk q0 a)| .x0=>Loops E 60 (aw Tryz.f60 0) (lr q0 v0 v1 v5) (.exit 0) (qE q0)
noncomputable def jL (v1:ByteArray):List GTask→Nat→Option zx|[],i=>some (.x0)|hd::rest,i=>cond (hd.f0.toList==v1.toList) (some (.ret (i:Int))) (jL v1 rest (i+1))
theorem IF {q0:Kd}(v0:List GTask)(v1:ByteArray)(rest:List GTask):∀(i:Nat) ,(v0).drop i=rest→v0.length≤9223372036854775807→Ans (jL v1 rest i) (IG (q0:=q0) v0 v1 (i:Int)):=by
 induction rest with
 |nil =>intro i a b;have hb:=bw a;unfold jL;exact NN (NP (show ud (lr q0 v0 v1 (i:Int)) (.exit 0) (qE q0)from RP [N2 (v0.length:Int),.b false] (ALn v0 (GTask.t q0)<|AC hb<|AN)) (by intro h;cases h))
 |cons hd rest f =>
  intro i a b;have hb:=a8 a;have g:=ba a b;have c:=aG a;have d:=bc a;unfold jL;apply NQ<;>intro e
  ·exact NN (NP (show ud (lr q0 v0 v1 (i:Int)) .ret (pk q0 (i:Int))from RP [N2 (v0.length:Int),.b true,.row ((GTask.t q0) hd),.b true] (ALn v0 (GTask.t q0)<|AC hb<|AR (GTask.t q0) d<|AC e<|AN)) (by intro h;cases h))
  ·exact(f (i+1) c b).mono fun y j=>by have r:ud (lr q0 v0 v1 (i:Int)) .normal (lr q0 v0 v1 (inc (i:Int))):=RP [N2 (v0.length:Int),.b true,.row ((GTask.t q0) hd),.b false] (ALn v0 (GTask.t q0)<|AC hb<|AR (GTask.t q0) d<|AC e<|AN);rw[g]at r;cases y<;>exact NO r j
noncomputable def wt (x0:List GTask)(b:ByteArray):Option (Int):=
  if x0.length≤9223372036854775807 then(jL b x0 0).bind fun y=>match y with
   | .ret a=>(some (a))
   | .x0=>(some ((-1:Int)))else none
theorem Km {q0:Kd}(x0:List GTask)(c:ByteArray):Ans (wt x0 c) (fun r=>Does E 60 [.one (.s .far () 5 (x0.map (GTask.t q0))),N1 c] [NW r]):=by
 unfold wt;refine NS (fun d => ?_);refine NR (fun y b => ?_);replace b:=IF (q0:=q0) x0 c x0 0 rfl d y b;cases y with
 |ret a =>have e:=b;exact NN (DP Tryz.f60 [.lp .ret (pk q0 a)] (AL e<|AN))
 |x0 =>have e:=b;exact NN (DP Tryz.f60 [.lp (.exit 0) (qE q0)] (AL e<|AN))
noncomputable def vC (x0:GTask)(a:ByteArray):Option (Bool):=some (x0.f0.toList==a.toList)
theorem DU (x0:GTask)(a:ByteArray):Ans (vC x0 a) (fun r=>Does E 82 [.agg (GTask.t .far x0),.im .far () [tS a] 0] [NX r]):=by unfold vC;exact NN (DP Tryz.f82 [] AN)
def jo (x:GTask)(n:ByteArray):Bool:=x.f0.toList==n.toList
def mV (n:ByteArray):List GTask→Nat→Int|[],_ => -1|t::r,i=>cond (jo t n) (i:Int) (mV n r (i+1))
def ar (ts:List GTask)(n:ByteArray):Int:=mV n ts 0
theorem mW (n:ByteArray):∀(l:List GTask)(i:Nat),(mV n l i = -1∧∀t∈l,jo t n=false)∨∃(k:Nat) (t:GTask),mV n l i=((i+k:Nat):Int)∧l[k]?=some t∧jo t n=true
 |[],i => .inl ⟨rfl,fun t a=>by cases a⟩
 |t::l,i=>by
  unfold mV;cases q:jo t n with
  |true=>exact .inr ⟨0,t,rfl,rfl,q⟩
  |false =>
   rw[Ou];rcases mW n l (i+1)with⟨h,b⟩|⟨k,u,c,d,e⟩
   ·exact .inl ⟨h,fun u hu=>by rcases OB.1 hu with rfl|hu;exact q;exact b u hu⟩
   ·exact .inr ⟨k+1,u,by rw[c];omega,d,e⟩
theorem IP (ts:List GTask)(n:ByteArray): -1≤ar ts n∧ar ts n<(ts.length:Int):=by
 unfold ar;rcases mW n ts 0 with⟨h,_⟩|⟨k,t,b,a,_⟩
 ·rw[h];omega
 ·have:k<ts.length:=by
   rcases Od k ts.length with g|g
   ·exact g
   ·rw[Ob g]at a;cases a
  rw[b];omega
theorem GI {ts:List GTask}{n:ByteArray}(h:0≤ar ts n):∃t∈ts,tx t.f0=tx n:=by
 unfold ar at h;rcases mW n ts 0 with⟨b,_⟩|⟨k,t,c,h2,a⟩
 ·rw[b]at h;omega
 ·unfold jo at a;rw[jQ,O4]at a;exact⟨t,N8 h2,a⟩
theorem Mi (n:ByteArray):∀(l:List GTask)(i:Nat),(jL n l i).bind (fun y=>match y with
   | .ret a=>(some (a))
   | .x0=>(some ((-1:Int))))=some (mV n l i)
 |[],i=>rfl
 |t::l,i=>by
  unfold jL mV;have e:(t.f0.toList==n.toList)=jo t n:=rfl;rw[e];cases jo t n with
  |true=>rfl
  |false=>exact Mi n l (i+1)
theorem uX (x0:GTask)(a:ByteArray):Does E 82 [.agg (GTask.t .far x0),.im .far () [tS a] 0] [NX (jo x0 a)]:=by exact DU x0 a _ rfl
theorem fL {q0:Kd}(x0:List GTask)(a:ByteArray)(h:x0.length≤1050000):Does E 60 [.one (.s .far () 5 (x0.map (GTask.t q0))),N1 a] [NW (ar x0 a)]:=by exact Km x0 a _ (by unfold wt;rw[N5 (by omega)];exact Mi a x0 0)
inductive gl where|ret (v4:Int)|x0
def bB (q0:Kd)(v0:List GTask)(a:ByteArray)(v7 v8:Int):US:=stL 19 [(0,.one (.s .far () 5 (v0.map (GTask.t q0)))),(1,.fni 82 [((),[tS a])]),(7,NZ v7),(8,NZ v8)]
def dh (q0:Kd)(a:Int):US:=stL 19 [(4,NZ a)]
def dq (q0:Kd)  : US:=stL 19 []
abbrev dN:US→Exit→US→Prop:=Round E 81 (aw Tryz.f81 0)
def lv {q0:Kd}(v0:List GTask)(a:ByteArray)(v7 v8:Int):gl→Prop| .ret b=>Loops E 81 (aw Tryz.f81 0) (bB q0 v0 a v7 v8) .ret (dh q0 b)| .x0=>Loops E 81 (aw Tryz.f81 0) (bB q0 v0 a v7 v8) (.exit 0) (dq q0)
noncomputable def bi (a:ByteArray):List GTask→Nat→Option gl|[],i=>some (.x0)|hd::rest,i=>cond (jo hd a) (some (.ret (i:Int))) (bi a rest (i+1))
theorem lu {q0:Kd}(v0:List GTask)(a:ByteArray)(rest:List GTask):∀(i:Nat) ,(v0).drop i=rest→v0.length≤9223372036854775807→Ans (bi a rest i) (lv (q0:=q0) v0 a (v0.length:Int) (i:Int)):=by
 induction rest with
 |nil =>intro i b c;have hb:=bw b;unfold bi;exact NN (NP (show dN (bB q0 v0 a (v0.length:Int) (i:Int)) (.exit 0) (dq q0)from RP [.b false] (AC hb<|AN)) (by intro h;cases h))
 |cons hd rest g =>
  intro i b c;have hb:=a8 b;have j:=ba b c;have d:=aG b;have e:=bc b;unfold bi;apply NQ<;>intro f
  ·exact NN (NP (show dN (bB q0 v0 a (v0.length:Int) (i:Int)) .ret (dh q0 (i:Int))from RP [.b true,.row ((GTask.t q0) hd),rT] (AC hb<|AR (GTask.t q0) e<|AD (NV (uX hd a) f)<|AN)) (by intro h;cases h))
  ·exact(g (i+1) d c).mono fun y k=>by have r:dN (bB q0 v0 a (v0.length:Int) (i:Int)) .normal (bB q0 v0 a (v0.length:Int) (inc (i:Int))):=RP [.b true,.row ((GTask.t q0) hd),rF] (AC hb<|AR (GTask.t q0) e<|AD (NV (uX hd a) f)<|AN);rw[j]at r;cases y<;>exact NO r k
noncomputable def dU (x0:List GTask)(a:ByteArray):Option (Int):=
  if x0.length≤9223372036854775807 then(bi a x0 0).bind fun y=>match y with
   | .ret b=>(some (b))
   | .x0=>(some ((-1:Int)))else none
theorem lL {q0:Kd}(x0:List GTask)(a:ByteArray):Ans (dU x0 a) (fun r=>Does E 81 [.one (.s .far () 5 (x0.map (GTask.t q0))),.fni 82 [((),[tS a])]] [NW r]):=by
 unfold dU;refine NS (fun d => ?_);refine NR (fun y c => ?_);replace c:=lu (q0:=q0) x0 a x0 0 rfl d y c;cases y with
 |ret b =>have e:=c;exact NN (DP Tryz.f81 [N2 (x0.length:Int),.lp .ret (dh q0 b)] (ALn x0 (GTask.t q0)<|AL e<|AN))
 |x0 =>have e:=c;exact NN (DP Tryz.f81 [N2 (x0.length:Int),.lp (.exit 0) (dq q0)] (ALn x0 (GTask.t q0)<|AL e<|AN))
theorem Mh (n:ByteArray):∀(l:List GTask)(i:Nat),(bi n l i).bind (fun y=>match y with
   | .ret a=>(some (a))
   | .x0=>(some ((-1:Int))))=some (mV n l i)
 |[],i=>rfl
 |t::l,i=>by
  unfold bi mV;cases jo t n with
  |true=>rfl
  |false=>exact Mh n l (i+1)
theorem lB {q0:Kd}(x0:List GTask)(a:ByteArray)(h:x0.length≤1050000):Does E 81 [.one (.s .far () 5 (x0.map (GTask.t q0))),.fni 82 [((),[tS a])]] [NW (ar x0 a)]:=by exact lL x0 a _ (by unfold dU;rw[N5 (by omega)];exact Mh a x0 0)
noncomputable def tG (x0:GDag)(a:ByteArray):Option (Int):=if x0.f5.length≤1050000 then some (ar x0.f5 a)else none
theorem H6 {q0:Kd}(x0:GDag)(a:ByteArray):Ans (tG x0 a) (fun r=>Does E 66 [.agg (GDag.t .far q0 x0),N1 a] [NW r]):=by unfold tG;refine NS (fun b => ?_);exact NN (DP Tryz.f66 [.ret [NW (ar x0.f5 a)]] (AV (ψ:=fun k=>E.C k 81 [.one (.s .far () 5 (x0.f5.map (GTask.t q0))),.fni 82 [((),[tS a])]]=some [NW (ar x0.f5 a)]) (lB x0.f5 a b)<|AN))
def bL (d:GDag)(n:ByteArray):Int:=ar d.f5 n
theorem fB {q0:Kd}(x0:GDag)(a:ByteArray)(h:x0.f5.length≤1050000):Does E 66 [.agg (GDag.t .far q0 x0),N1 a] [NW (bL x0 a)]:=by exact H6 x0 a _ (by unfold tG;rw[N5 h];rfl)
inductive qX where|ret (v6:Bool)|x0
def gf (q0:Kd)(a b:ByteArray)(c d:Int)(v0_4:Bool)(e:List GTask)(v2:List Int)(v10:List ByteArray)(v11 f:Int):US:=stL 25 [(0,.im .far () [tS a,tS b,tI c,tI d,tB v0_4,.s .far () 5 (e.map (GTask.t q0))] 0),(2,.one (.s .far () 1 (v2.map etI))),(10,.one (.s .far () 1 (v10.map etS))),(11,NZ v11),(12,NZ f)]
def kG (q0:Kd)(a:Bool):US:=stL 25 [(6,N0 a)]
def lC (q0:Kd)  : US:=stL 25 []
abbrev na:US→Exit→US→Prop:=Round E 85 (aw Tryz.f85 0)
def yV {q0:Kd}(a b:ByteArray)(c d:Int)(v0_4:Bool)(e:List GTask)(v2:List Int)(v10:List ByteArray)(v11 f:Int):qX→Prop| .ret g=>Loops E 85 (aw Tryz.f85 0) (gf q0 a b c d v0_4 e v2 v10 v11 f) .ret (kG q0 g)| .x0=>Loops E 85 (aw Tryz.f85 0) (gf q0 a b c d v0_4 e v2 v10 v11 f) (.exit 0) (lC q0)
noncomputable def eZ (a b:ByteArray)(c d:Int)(e:List GTask)(v2:List Int):List ByteArray→Nat→Bool→Option qX|[],i,v0_4=>some (.x0)|hd::rest,i,v0_4=>if(GDag.mk a b c d v0_4 e).f5.length≤1050000 then if v2.length≤1050000 then cond (cH v2 (bL (GDag.mk a b c d v0_4 e) hd)) (eZ a b c d e v2 rest (i+1) v0_4) (some (.ret false))else none else none
theorem yU {q0:Kd}(a b:ByteArray)(c d:Int)(e:List GTask)(v2:List Int)(v10:List ByteArray)(rest:List ByteArray):∀(i:Nat)(v0_4:Bool),(v10).drop i=rest→v10.length≤9223372036854775807→Ans (eZ a b c d e v2 rest i v0_4) (yV (q0:=q0) a b c d v0_4 e v2 v10 (v10.length:Int) (i:Int)):=by
 induction rest with
 |nil =>intro i v0_4 f g;have hb:=bw f;unfold eZ;exact NN (NP (show na (gf q0 a b c d v0_4 e v2 v10 (v10.length:Int) (i:Int)) (.exit 0) (lC q0)from RP [.b false] (AC hb<|AN)) (by intro h;cases h))
 |cons hd rest p =>
  intro i v0_4 f g;have hb:=a8 f;have q:=ba f g;have j:=aG f;have l:=bc f;unfold eZ;refine NS (fun m => ?_);refine NS (fun n => ?_);apply NQ<;>intro o
  ·exact(p (i+1) v0_4 j g).mono fun y s=>by have r:na (gf q0 a b c d v0_4 e v2 v10 (v10.length:Int) (i:Int)) .normal (gf q0 a b c d v0_4 e v2 v10 (v10.length:Int) (inc (i:Int))):=RP [.b true,.row (etS hd),.ret [NW (bL (GDag.mk a b c d v0_4 e) hd)],rT] (AC hb<|AR etS l<|AV (ψ:=fun k=>E.C k 66 [.agg (GDag.t .far q0 (GDag.mk a b c d v0_4 e)),N1 hd]=some [NW (bL (GDag.mk a b c d v0_4 e) hd)]) (fB (GDag.mk a b c d v0_4 e) hd m)<|AD (NV (fZ v2 (bL (GDag.mk a b c d v0_4 e) hd) n) o)<|AN);rw[q]at r;cases y<;>exact NO r s
  ·exact NN (NP (show na (gf q0 a b c d v0_4 e v2 v10 (v10.length:Int) (i:Int)) .ret (kG q0 false)from RP [.b true,.row (etS hd),.ret [NW (bL (GDag.mk a b c d v0_4 e) hd)],rF] (AC hb<|AR etS l<|AV (ψ:=fun k=>E.C k 66 [.agg (GDag.t .far q0 (GDag.mk a b c d v0_4 e)),N1 hd]=some [NW (bL (GDag.mk a b c d v0_4 e) hd)]) (fB (GDag.mk a b c d v0_4 e) hd m)<|AD (NV (fZ v2 (bL (GDag.mk a b c d v0_4 e) hd) n) o)<|AN)) (by intro h;cases h))
noncomputable def k6 (x0:GDag)(b:GTask)(x2:List Int):Option (Bool):=
  if b.f4.length≤9223372036854775807 then(eZ x0.f0 x0.f1 x0.f2 x0.f3 x0.f5 x2 b.f4 0 x0.f4).bind fun y=>match y with
   | .ret a=>(some (a))
   | .x0=>(some (true))else none
theorem Ab {q0:Kd}(x0:GDag)(a:GTask)(x2:List Int):Ans (k6 x0 a x2) (fun r=>Does E 85 [.im .far () (GDag.t .far q0 x0) 0,.agg (GTask.t .far a),.one (.s .far () 1 (x2.map etI))] [NX r]):=by
 unfold k6;refine NS (fun d => ?_);refine NR (fun y c => ?_);replace c:=yU (q0:=q0) x0.f0 x0.f1 x0.f2 x0.f3 x0.f5 x2 a.f4 a.f4 0 x0.f4 rfl d y c;cases y with
 |ret b =>have e:=c;exact NN (DP Tryz.f85 [N2 (a.f4.length:Int),.lp .ret (kG q0 b)] (ALn a.f4 etS<|AL e<|AN))
 |x0 =>have e:=c;exact NN (DP Tryz.f85 [N2 (a.f4.length:Int),.lp (.exit 0) (lC q0)] (ALn a.f4 etS<|AL e<|AN))
def qV (ts:List GTask)(o:List Int)(t:GTask):Bool:=t.f4.all fun n=>cH o (ar ts n)
def vM (d:GDag)(t:GTask)(o:List Int):Bool:=qV d.f5 o t
theorem JC (a b:ByteArray)(c e:Int)(ts:List GTask)(o:List Int)(d:ts.length≤1050000)(f:o.length≤1050000):∀(l:List ByteArray)(i:Nat)(z:Bool),eZ a b c e ts o l i z=some (cond (l.all fun n=>cH o (ar ts n)) .x0 (.ret false))
 |[],i,z=>rfl
 |n::l,i,z=>by unfold eZ;rw[N5 (show(GDag.mk a b c e z ts).f5.length≤1050000 from d),N5 f,PH,JC a b c e ts o d f l (i+1) z];show cond (cH o (ar ts n)) _ _=_;cases cH o (ar ts n)<;>rfl
theorem Mq (d:GDag)(t:GTask)(o:List Int)(a:d.f5.length≤1050000)(c:t.f4.length≤1050000)(b:o.length≤1050000):k6 d t o=some (vM d t o):=by unfold k6;rw[N5 (by omega),JC _ _ _ _ _ _ a b];show _=some (t.f4.all fun n=>cH o (ar d.f5 n));cases t.f4.all fun n=>cH o (ar d.f5 n)<;>rfl
theorem zL {q0:Kd}(x0:GDag)(a:GTask)(x2:List Int)(b:x0.f5.length≤1050000)(c:a.f4.length≤1050000)(d:x2.length≤1050000):Does E 85 [.im .far () (GDag.t .far q0 x0) 0,.agg (GTask.t .far a),.one (.s .far () 1 (x2.map etI))] [NX (vM x0 a x2)]:=by exact Ab x0 a x2 _ (Mq x0 a x2 b c d)
noncomputable def oY (x0:GTask)(a:List Int)(b:GDag):Option (Bool):=if b.f5.length≤1050000 then if a.length≤1050000 then cond (cH a (bL b x0.f0)) (some (false)) (if x0.f4.length≤1050000 then some (vM b x0 a)else none)else none else none
theorem B3 {b:Kd}(x0:GTask)(c:List Int)(a:GDag):Ans (oY x0 c a) (fun r=>Does E 83 [.agg (GTask.t .far x0),.im .far () [.s .far () 1 (c.map etI)] 0,.im .far () [tS a.f0,tS a.f1,tI a.f2,tI a.f3,tB a.f4,.s .far () 5 (a.f5.map (GTask.t b))] 0] [NX r]):=by
 unfold oY;refine NS (fun d => ?_);refine NS (fun e => ?_);apply NQ<;>intro f
 ·exact NN (DP Tryz.f83 [.ret [NW (bL a x0.f0)],rT] (AV (ψ:=fun k=>E.C k 66 [.agg (GDag.t .far b a),N1 x0.f0]=some [NW (bL a x0.f0)]) (fB a x0.f0 d)<|AD (NV (fZ c (bL a x0.f0) e) f)<|AN))
 ·refine NS (fun g => ?_);exact NN (DP Tryz.f83 [.ret [NW (bL a x0.f0)],rF,.ret [NX (vM a x0 c)]] (AV (ψ:=fun k=>E.C k 66 [.agg (GDag.t .far b a),N1 x0.f0]=some [NW (bL a x0.f0)]) (fB a x0.f0 d)<|AD (NV (fZ c (bL a x0.f0) e) f)<|AV (ψ:=fun k=>E.C k 85 [.im .far () [tS a.f0,tS a.f1,tI a.f2,tI a.f3,tB a.f4,.s .far () 5 (a.f5.map (GTask.t b))] 0,.agg (GTask.t .far x0),.one (.s .far () 1 (c.map etI))]=some [NX (vM a x0 c)]) (zL a x0 c d g e)<|AN))
def x9 (t:GTask)(o:List Int)(d:GDag):Bool := !cH o (ar d.f5 t.f0)&&qV d.f5 o t
theorem uj {c:Kd}(x0:GTask)(b:List Int)(a:GDag)(d:a.f5.length≤1050000)(e:x0.f4.length≤1050000)(f:b.length≤1050000):Does E 83 [.agg (GTask.t .far x0),.im .far () [.s .far () 1 (b.map etI)] 0,.im .far () [tS a.f0,tS a.f1,tI a.f2,tI a.f3,tB a.f4,.s .far () 5 (a.f5.map (GTask.t c))] 0] [NX (x9 x0 b a)]:=by exact B3 x0 b a _ (by unfold oY x9;simp only[d,e,f,OH];show cond (cH b (ar a.f5 x0.f0)) _ _=_;cases cH b (ar a.f5 x0.f0)<;>rfl)
inductive fX where|ret (v4:Int)|x0
def bA (q0:Kd)(qc1_1:Kd)(v0:List GTask)(a:List Int)(b c:ByteArray)(d e:Int)(f:Bool)(g:List GTask)(v7 v8:Int):US:=stL 19 [(0,.one (.s .far () 5 (v0.map (GTask.t q0)))),(1,.fni 83 [((),[.s .far () 1 (a.map etI)]),((),[tS b,tS c,tI d,tI e,tB f,.s .far () 5 (g.map (GTask.t qc1_1))])]),(7,NZ v7),(8,NZ v8)]
def cZ (q0:Kd)(qc1_1:Kd)(a:Int):US:=stL 19 [(4,NZ a)]
def di (q0:Kd)(qc1_1:Kd)  : US:=stL 19 []
abbrev dC:US→Exit→US→Prop:=Round E 81 (aw Tryz.f81 0)
def kR {q0:Kd}{qc1_1:Kd}(v0:List GTask)(a:List Int)(b c:ByteArray)(d e:Int)(f:Bool)(g:List GTask)(v7 v8:Int):fX→Prop| .ret h=>Loops E 81 (aw Tryz.f81 0) (bA q0 qc1_1 v0 a b c d e f g v7 v8) .ret (cZ q0 qc1_1 h)| .x0=>Loops E 81 (aw Tryz.f81 0) (bA q0 qc1_1 v0 a b c d e f g v7 v8) (.exit 0) (di q0 qc1_1)
noncomputable def bd (b:List Int)(c d:ByteArray)(e f:Int)(g:List GTask):List GTask→Nat→Bool→Option fX|[],i,a=>some (.x0)|hd::rest,i,a=>if(GDag.mk c d e f a g).f5.length≤1050000 then if hd.f4.length≤1050000 then if b.length≤1050000 then cond (x9 hd b (GDag.mk c d e f a g)) (some (.ret (i:Int))) (bd b c d e f g rest (i+1) a)else none else none else none
theorem kQ {q0:Kd}{qc1_1:Kd}(v0:List GTask)(b:List Int)(c d:ByteArray)(e f:Int)(g:List GTask)(rest:List GTask):∀(i:Nat)(a:Bool),(v0).drop i=rest→v0.length≤9223372036854775807→Ans (bd b c d e f g rest i a) (kR (q0:=q0) (qc1_1:=qc1_1) v0 b c d e f a g (v0.length:Int) (i:Int)):=by
 induction rest with
 |nil =>intro i a j l;have hb:=bw j;unfold bd;exact NN (NP (show dC (bA q0 qc1_1 v0 b c d e f a g (v0.length:Int) (i:Int)) (.exit 0) (di q0 qc1_1)from RP [.b false] (AC hb<|AN)) (by intro h;cases h))
 |cons hd rest u =>
  intro i a j l;have hb:=a8 j;have v:=ba j l;have m:=aG j;have n:=bc j;unfold bd;refine NS (fun o => ?_);refine NS (fun p => ?_);refine NS (fun q => ?_);apply NQ<;>intro s
  ·exact NN (NP (show dC (bA q0 qc1_1 v0 b c d e f a g (v0.length:Int) (i:Int)) .ret (cZ q0 qc1_1 (i:Int))from RP [.b true,.row ((GTask.t q0) hd),rT] (AC hb<|AR (GTask.t q0) n<|AV (ψ:=fun k=>E.C k 83 [.agg (GTask.t .far hd),.im .far () [.s .far () 1 (b.map etI)] 0,.im .far () [tS c,tS d,tI e,tI f,tB a,.s .far () 5 (g.map (GTask.t qc1_1))] 0]=some [NX true]) (NT (uj hd b (GDag.mk c d e f a g) o p q) (by rw[s]))<|AN)) (by intro h;cases h))
  ·exact(u (i+1) a m l).mono fun y w=>by have r:dC (bA q0 qc1_1 v0 b c d e f a g (v0.length:Int) (i:Int)) .normal (bA q0 qc1_1 v0 b c d e f a g (v0.length:Int) (inc (i:Int))):=RP [.b true,.row ((GTask.t q0) hd),rF] (AC hb<|AR (GTask.t q0) n<|AV (ψ:=fun k=>E.C k 83 [.agg (GTask.t .far hd),.im .far () [.s .far () 1 (b.map etI)] 0,.im .far () [tS c,tS d,tI e,tI f,tB a,.s .far () 5 (g.map (GTask.t qc1_1))] 0]=some [NX false]) (NT (uj hd b (GDag.mk c d e f a g) o p q) (by rw[s]))<|AN);rw[v]at r;cases y<;>exact NO r w
noncomputable def cz (x0:List GTask)(b:List Int)(a:GDag):Option (Int):=
  if x0.length≤9223372036854775807 then(bd b a.f0 a.f1 a.f2 a.f3 a.f5 x0 0 a.f4).bind fun y=>match y with
   | .ret c=>(some (c))
   | .x0=>(some ((-1:Int)))else none
theorem lw {q0:Kd}{qc1_1:Kd}(x0:List GTask)(b:List Int)(a:GDag):Ans (cz x0 b a) (fun r=>Does E 81 [.one (.s .far () 5 (x0.map (GTask.t q0))),.fni 83 [((),[.s .far () 1 (b.map etI)]),((),[tS a.f0,tS a.f1,tI a.f2,tI a.f3,tB a.f4,.s .far () 5 (a.f5.map (GTask.t qc1_1))])]] [NW r]):=by
 unfold cz;refine NS (fun e => ?_);refine NR (fun y d => ?_);replace d:=kQ (q0:=q0) (qc1_1:=qc1_1) x0 b a.f0 a.f1 a.f2 a.f3 a.f5 x0 0 a.f4 rfl e y d;cases y with
 |ret c =>have f:=d;exact NN (DP Tryz.f81 [N2 (x0.length:Int),.lp .ret (cZ q0 qc1_1 c)] (ALn x0 (GTask.t q0)<|AL f<|AN))
 |x0 =>have f:=d;exact NN (DP Tryz.f81 [N2 (x0.length:Int),.lp (.exit 0) (di q0 qc1_1)] (ALn x0 (GTask.t q0)<|AL f<|AN))
def fb (o:List Int)(ts:List GTask):List GTask→Nat→Option Nat|[],_=>none|t::r,i=>if(!cH o (ar ts t.f0)&&qV ts o t)=true then some i else fb o ts r (i+1)
def cw (l:List GTask)(o:List Int)(d:GDag):Int:=match fb o d.f5 l 0 with|some i=>(i:Int)|none => -1
theorem JY (o:List Int)(a b:ByteArray)(c e:Int)(ts:List GTask)(f:ts.length≤1050000)(g:o.length≤1050000):∀(l:List GTask)(i:Nat)(z:Bool),ae.sm l→bd o a b c e ts l i z=some (match fb o ts l i with|some k => .ret (k:Int)|none => .x0)
 |[],i,z,_=>rfl
 |t::l,i,z,d=>by unfold bd fb;have h:t.f4.length≤1050000:=(d.2 t (by simp)).2.2.1;rw[N5 (show(GDag.mk a b c e z ts).f5.length≤1050000 from f),N5 h,N5 g,JY o a b c e ts f g l (i+1) z ⟨by have:=d.1;simp at this;omega,fun y j=>d.2 y (by simp[j])⟩];show cond (!cH o (ar ts t.f0)&&qV ts o t) _ _=_;cases(!cH o (ar ts t.f0)&&qV ts o t)<;>rfl
theorem My (l:List GTask)(o:List Int)(d:GDag)(a:ae.sm l)(b:d.f5.length≤1050000)(c:o.length≤1050000):cz l o d=some (cw l o d):=by unfold cz cw;rw[N5 (by have:=a.1;omega),JY o d.f0 d.f1 d.f2 d.f3 d.f5 b c l 0 d.f4 a];cases fb o d.f5 l 0<;>rfl
theorem ga {q0:Kd}{qc1_1:Kd}(x0:List GTask)(b:List Int)(a:GDag)(c:ae.sm x0)(d:a.f5.length≤1050000)(e:b.length≤1050000):Does E 81 [.one (.s .far () 5 (x0.map (GTask.t q0))),.fni 83 [((),[.s .far () 1 (b.map etI)]),((),[tS a.f0,tS a.f1,tI a.f2,tI a.f3,tB a.f4,.s .far () 5 (a.f5.map (GTask.t qc1_1))])]] [NW (cw x0 b a)]:=by exact lw x0 b a _ (My x0 b a c d e)
inductive vH where|ret (v2:List Int)
def nc (q0:Kd)(a b:ByteArray)(c d:Int)(e:Bool)(f:List GTask)(g:List Int):US:=stL 16 [(1,.box () [tS a,tS b,tI c,tI d,tB e,.s .far () 5 (f.map (GTask.t q0))]),(3,.box () [.s .own () 1 (g.map etI)])]
def kp (q0:Kd)(a:List Int):US:=stL 16 [(2,.one (.s .own () 1 (a.map etI)))]
abbrev vG:US→Exit→US→Prop:=Round E 67 (aw Tryz.f67 0)
def DX {q0:Kd}(a b:ByteArray)(c d:Int)(e:Bool)(f:List GTask)(g:List Int):vH→Prop| .ret h=>Loops E 67 (aw Tryz.f67 0) (nc q0 a b c d e f g) .ret (kp q0 h)
noncomputable def jb (c d:ByteArray)(e f:Int)(a:List GTask):Nat→Bool→(List Int)→Option vH| 0,_,_=>none|n+1,g,b=>if ae.sm a then if(GDag.mk c d e f g a).f5.length≤1050000 then if b.length≤1050000 then cond (decide ((cw a b (GDag.mk c d e f g a))<(0:Int))) (some (.ret b)) (if(b.length+([cw a b (GDag.mk c d e f g a)]).length)*8≤140737488355328∧b.length+([cw a b (GDag.mk c d e f g a)]).length≤4611686018427387904 then jb c d e f a n g (b++([cw a b (GDag.mk c d e f g a)]))else none)else none else none else none
theorem DW {q0:Kd}(d e:ByteArray)(f g:Int)(a:List GTask)(n:Nat):∀(c:Bool)(b:List Int),Ans (jb d e f g a n c b) (DX (q0:=q0) d e f g c a b):=by
 induction n with
 |zero=>intros;exact Ans.none
 |succ n o =>
  intro c b;unfold jb;refine NS (fun i => ?_);refine NS (fun j => ?_);refine NS (fun l => ?_);apply NQ<;>intro m
  ·exact NN (NP (show vG (nc q0 d e f g c a b) .ret (kp q0 b)from Round.to (RP (D':=stL 16 [(2,.one (.s .own () 1 (((b.map etI).drop 0).take (b.map etI).length)))]) [.ret [NW (cw a b (GDag.mk d e f g c a))],.b true] (AV (ψ:=fun k=>E.C k 81 [.one (.s .far () 5 (a.map (GTask.t q0))),.fni 83 [((),[.s .far () 1 (b.map etI)]),((),[tS d,tS e,tI f,tI g,tB c,.s .far () 5 (a.map (GTask.t q0))])]]=some [NW (cw a b (GDag.mk d e f g c a))]) (ga a b (GDag.mk d e f g c a) i j l)<|AC m<|AN)) (by simp only[kp,OX,OR])) (by intro h;cases h))
  ·refine NS (fun q => ?_);have r:vG (nc q0 d e f g c a b) .normal (nc q0 d e f g c a (b++([cw a b (GDag.mk d e f g c a)]))):=RP [.ret [NW (cw a b (GDag.mk d e f g c a))],.b false,.rows ((b++([cw a b (GDag.mk d e f g c a)])).map etI)] (AV (ψ:=fun k=>E.C k 81 [.one (.s .far () 5 (a.map (GTask.t q0))),.fni 83 [((),[.s .far () 1 (b.map etI)]),((),[tS d,tS e,tI f,tI g,tB c,.s .far () 5 (a.map (GTask.t q0))])]]=some [NW (cw a b (GDag.mk d e f g c a))]) (ga a b (GDag.mk d e f g c a) i j l)<|AC m<|AC (p:=(((([cw a b (GDag.mk d e f g c a)]).map etI).drop 0).take (([cw a b (GDag.mk d e f g c a)]).map etI).length).all (fun r=>r.all T.flat)=true∧((((b.map etI).drop 0).take (b.map etI).length).length+(((([cw a b (GDag.mk d e f g c a)]).map etI).drop 0).take (([cw a b (GDag.mk d e f g c a)]).map etI).length).length)*8≤140737488355328∧(((b.map etI).drop 0).take (b.map etI).length).length+(((([cw a b (GDag.mk d e f g c a)]).map etI).drop 0).take (([cw a b (GDag.mk d e f g c a)]).map etI).length).length≤4611686018427387904) (by simp only[OX,OR];exact CP (fun x=>rfl) q)<|AC (p:=(((b.map etI).drop 0).take (b.map etI).length)++(((([cw a b (GDag.mk d e f g c a)]).map etI).drop 0).take (([cw a b (GDag.mk d e f g c a)]).map etI).length)=(b++([cw a b (GDag.mk d e f g c a)])).map etI) (by simp only[OX,OR];exact C9)<|AN);exact(o c (b++([cw a b (GDag.mk d e f g c a)]))).mono fun y s=>by cases y<;>exact NO r s
noncomputable def ov (x0:GDag):Option ((List Int)):=
  (jb x0.f0 x0.f1 x0.f2 x0.f3 x0.f5 9223372036854775808 x0.f4 ([])).bind fun y=>match y with
   | .ret a=>(some (a))
theorem FZ {q0:Kd}(x0:GDag):Ans (ov x0) (fun r=>Does E 67 [.agg (GDag.t .far q0 x0)] [(false,[.s .own () 1 (r.map etI)])]):=by
 unfold ov;refine NR (fun y b => ?_);replace b:=DW (q0:=q0) x0.f0 x0.f1 x0.f2 x0.f3 x0.f5 9223372036854775808 x0.f4 ([]) y b;cases y with
 |ret a =>have c:=b;exact NN (DP Tryz.f67 [.lp .ret (kp q0 a)] (AL c<|AN))
def dg (ts:List GTask):Prop:=ts.length≤4∧∀(i:Nat)(t:GTask),ts[i]?=some t→ar ts t.f0=(i:Int)
def jf (ts:List GTask):Nat→List Int→List Int
 | 0,o=>o
 |k+1,o=>match fb o ts ts 0 with|none=>o|some i=>jf ts k (o++[(i:Int)])
def dA (ts:List GTask):List Int:=jf ts ts.length []
def fj (d:GDag):List Int:=dA d.f5
theorem xY {o:List Int}{x:Int}:cH o x=true↔x∈o:=by
 unfold cH;rw[Pt];constructor
 ·rintro⟨y,h,e⟩;rw[PK]at e;subst e;exact h
 ·intro h;exact⟨x,h,by simp⟩
theorem pa {o:List Int}{ts:List GTask}:∀{l:List GTask}{i k:Nat},fb o ts l i=some k→∃t j,k=i+j∧l[j]?=some t∧cH o (ar ts t.f0)=false∧qV ts o t=true
 |[],i,k,h=>by cases h
 |t::l,i,k,h=>by
  unfold fb at h;split at h
  ·rename_i q;cases h;simp only[Ow,QW]at q;exact⟨t,0,rfl,rfl,q.1,q.2⟩
  ·obtain⟨u,j,c,a,b⟩:=pa h;exact⟨u,j+1,by omega,a,b⟩
def wI (n:Nat)(o:List Int):Nat:=((List.range n).filter fun i:Nat => !cH o (i:Int)).length
theorem Bo {α:Type}{p q:α→Bool}:∀{l:List α},(∀y,q y=true→p y=true)→(l.filter q).length≤(l.filter p).length
 |[],_=>by simp
 |z::l,h=>by
  have b:=Bo (l:=l) h;rw[Pu,Pu];cases a:q z with
  |true=>rw[h z a];simpa using b
  |false=>cases p z<;>simp<;>omega
theorem Bp {α:Type}{p q:α→Bool}{x:α}:∀{l:List α},(∀y,q y=true→p y=true)→x∈l→p x=true→q x=false→(l.filter q).length<(l.filter p).length
 |y::l,h,hx,b,c=>by
  have le:=Bo (l:=l) h;rw[Pu,Pu];rcases OB.1 hx with rfl|hx
  ·rw[b,c];simp;omega
  ·have:=Bp (l:=l) h hx b c;cases a:q y with
   |true=>rw[h y a];simpa using this
   |false=>cases p y<;>simp<;>omega
theorem JU {n i:Nat}{o:List Int}(hi:i<n)(h:cH o (i:Int)=false):wI n (o++[(i:Int)])<wI n o:=by
 unfold wI;refine Bp (p:=fun i:Nat => !cH o (i:Int)) (q:=fun j:Nat => !cH (o++[(i:Int)]) (j:Int)) (x:=i) (fun y a => ?_) (OW.2 hi) (by rw[h];rfl) ?_
 ·rw[QW]at a ⊢;rw[←Ql,xY]at a ⊢;exact fun e=>a (by simp[e])
 ·have:cH (o++[(i:Int)]) (i:Int)=true:=xY.2 (by simp);rw[this];rfl
theorem Lg (n:Nat):wI n []=n:=by
 unfold wI;have:(List.range n).filter (fun i:Nat => !cH [] (i:Int))=List.range n:=List.filter_eq_self.2 fun a _=>rfl
 rw[this,QT]
theorem G9 (a b:ByteArray)(c e:Int)(ts:List GTask)(hs:ae.sm ts)(h:dg ts):∀(k n:Nat)(o:List Int)(z:Bool),wI ts.length o≤k→k<n→o.length+k≤1000→jb a b c e ts n z o=some (.ret (jf ts k o))
 |k,0,o,z,_,r,_=>by omega
 |k,n+1,o,z,v,r,w=>by
  unfold jb;rw[N5 hs,N5 (show(GDag.mk a b c e z ts).f5.length≤1050000 from hs.1),N5 (by omega)];have s:cw ts o (GDag.mk a b c e z ts)=match fb o ts ts 0 with|some i=>(i:Int)|none => -1:=rfl
  rw[s];cases q:fb o ts ts 0 with
  |none =>
   have:jf ts k o=o:=by
    cases k with
    |zero=>rfl
    |succ k=>unfold jf;rw[q]
   rw[this];rfl
  |some i =>
   obtain⟨t,j,x,d,l,y⟩:=pa q;have f:i=j:=by omega
   subst f;rw[h.2 i t d]at l;have hi:i<ts.length:=by
    rcases Od i ts.length with g|g
    ·exact g
    ·rw[Ob g]at d;cases d
   have p:=JU hi l;obtain⟨k,rfl⟩:∃m,k=m+1:=⟨k-1,by omega⟩
   have u:=G9 a b c e ts hs h k n (o++[(i:Int)]) z (by omega) (by omega) (by simp;omega);simp only;rw[Oe (by omega),Ou,N5 (by simp;omega),u]
   conv=>rhs;unfold jf
   rw[q]
theorem J5 (d:GDag)(h:ae.sm d)(a:dg d.f5):ov d=some (fj d):=by have hs:ae.sm d.f5:=h.2.2;unfold ov;have:=G9 d.f0 d.f1 d.f2 d.f3 d.f5 hs a d.f5.length 9223372036854775808 [] d.f4 (by rw[Lg];exact OP _) (by have:=a.1;omega) (by have:=a.1;simp;omega);refine(Ov (Option.bind · _) this).trans rfl
theorem wR {q0:Kd}(x0:GDag)(h:ae.sm x0)(a:dg x0.f5):Does E 67 [.agg (GDag.t .far q0 x0)] [(false,[.s .own () 1 ((fj x0).map etI)])]:=by exact FZ x0 _ (J5 x0 h a)
inductive uL where|x4 (v6:Bool)
def gq (q0:Kd)(v0:List GTask)(v3:List Int)(v4 v5:Int)(v6:Bool)(v7:Int):US:=stL 57 [(0,.one (.s .far () 5 (v0.map (GTask.t q0)))),(3,.one (.s .own () 1 (v3.map etI))),(4,NZ v4),(5,NZ v5),(6,N0 v6),(7,NZ v7)]
def iM (q0:Kd)(v0:List GTask)(v3:List Int)(v4 v5:Int)(a:Bool):US:=stL 57 [(0,.one (.s .far () 5 (v0.map (GTask.t q0)))),(3,.one (.s .own () 1 (v3.map etI))),(4,NZ v4),(5,NZ v5),(6,N0 a)]
abbrev mh:US→Exit→US→Prop:=Round E 39 (aw Tryz.f39 2)
def CA {q0:Kd}(v0:List GTask)(v3:List Int)(v4 v5:Int)(v6:Bool)(v7:Int):uL→Prop| .x4 a=>Loops E 39 (aw Tryz.f39 2) (gq q0 v0 v3 v4 v5 v6 v7) (.exit 4) (iM q0 v0 v3 v4 v5 a)
noncomputable def fv (v0:List GTask)(v3:List Int)(v5:Int):Nat→Bool→Int→Option uL
 | 0,_,_=>none
 |n+1,v6,v7=>match v6 with
  |true=>(ap v0 v5).bind fun a=>cond (decide (v7<(a.f4.length:Int)))
   ((ap a.f4 v7).bind fun g1=>if v0.length≤1050000 then if v3.length≤1050000 then fv v0 v3 v5 n (cH v3 (ar v0 g1)) (inc v7)else none else none)
   (some (.x4 v6))
  |false=>(ap v0 v5).bind fun a=>cond (decide (v7<(a.f4.length:Int)))
   (fv v0 v3 v5 n false (inc v7))
   (some (.x4 v6))
theorem Cw {q0:Kd}(v0:List GTask)(v3:List Int)(v4 v5:Int)(n:Nat):∀(v6:Bool)(v7:Int),Ans (fv v0 v3 v5 n v6 v7) (CA (q0:=q0) v0 v3 v4 v5 v6 v7):=by
 induction n with
 |zero=>intros;exact Ans.none
 |succ n e =>
  intro v6 v7;unfold fv;cases v6 with
  |true =>
   refine NR (fun a b => ?_);apply NQ<;>intro c
   ·refine NR (fun g1 f => ?_);refine NS (fun g => ?_);refine NS (fun i => ?_);have r:mh (gq q0 v0 v3 v4 v5 true v7) .normal (gq q0 v0 v3 v4 v5 (cH v3 (ar v0 g1)) (inc v7)):=RP [.row ((GTask.t q0) a),N2 (a.f4.length:Int),.b true,.row ((GTask.t q0) a),.row (etS g1),.ret [NW (ar v0 g1)],.ret [NX (cH v3 (ar v0 g1))]] (AR (GTask.t q0) b<|ALn a.f4 etS<|AC c<|AR (GTask.t q0) b<|AR etS f<|AV (ψ:=fun k=>E.C k 60 [.one (.s .far () 5 (v0.map (GTask.t q0))),N1 g1]=some [NW (ar v0 g1)]) (fL v0 g1 g)<|AV (ψ:=fun k=>E.C k 59 [.one (.s .far () 1 (((v3.map etI).drop 0).take (v3.map etI).length)),NZ (ar v0 g1)]=some [NX (cH v3 (ar v0 g1))]) (NU (by simp only[OX,OR]) (qP v3 (ar v0 g1) i))<|AN);exact(e (cH v3 (ar v0 g1)) (inc v7)).mono fun y d=>by cases y<;>exact NO r d
   ·exact NN (NP (show mh (gq q0 v0 v3 v4 v5 true v7) (.exit 4) (iM q0 v0 v3 v4 v5 true)from RP [.row ((GTask.t q0) a),N2 (a.f4.length:Int),.b false] (AR (GTask.t q0) b<|ALn a.f4 etS<|AC c<|AN)) (by intro h;cases h))
  |false =>
   refine NR (fun a b => ?_);apply NQ<;>intro c
   ·have r:mh (gq q0 v0 v3 v4 v5 false v7) .normal (gq q0 v0 v3 v4 v5 false (inc v7)):=RP [.row ((GTask.t q0) a),N2 (a.f4.length:Int),.b true] (AR (GTask.t q0) b<|ALn a.f4 etS<|AC c<|AN);exact(e false (inc v7)).mono fun y d=>by cases y<;>exact NO r d
   ·exact NN (NP (show mh (gq q0 v0 v3 v4 v5 false v7) (.exit 4) (iM q0 v0 v3 v4 v5 false)from RP [.row ((GTask.t q0) a),N2 (a.f4.length:Int),.b false] (AR (GTask.t q0) b<|ALn a.f4 etS<|AC c<|AN)) (by intro h;cases h))
inductive uK where|x2 (v3:List Int)
def fu (q0:Kd)(v0:List GTask)(v3:List Int)(v4 v5:Int):US:=stL 57 [(0,.one (.s .far () 5 (v0.map (GTask.t q0)))),(3,.one (.s .own () 1 (v3.map etI))),(4,NZ v4),(5,NZ v5)]
def nF (q0:Kd)(v0:List GTask)(v4:Int)(a:List Int):US:=stL 57 [(0,.one (.s .far () 5 (v0.map (GTask.t q0)))),(3,.one (.s .own () 1 (a.map etI))),(4,NZ v4)]
abbrev mg:US→Exit→US→Prop:=Round E 39 (aw Tryz.f39 1)
def Cz {q0:Kd}(v0:List GTask)(v3:List Int)(v4 v5:Int):uK→Prop| .x2 a=>Loops E 39 (aw Tryz.f39 1) (fu q0 v0 v3 v4 v5) (.exit 2) (nF q0 v0 v4 a)
noncomputable def dH (v0:List GTask):Nat→(List Int)→Int→Option uK
 | 0,_,_=>none
 |n+1,v3,v5=>cond (decide (v5<(v0.length:Int)))
  (if v3.length≤1050000 then cond (cH v3 v5)
   (dH v0 n v3 (inc v5))
   ((fv v0 v3 v5 9223372036854775808 true 0).bind fun y=>match y with
    | .x4 a=>(match a with
     |true=>if(v3.length+([v5]).length)*8≤140737488355328∧v3.length+([v5]).length≤4611686018427387904 then dH v0 n (v3++([v5])) (inc (v0.length:Int))else none
     |false=>dH v0 n v3 (inc v5)))else none)
  (some (.x2 v3))
theorem Cv {q0:Kd}(v0:List GTask)(v4:Int)(n:Nat):∀(v3:List Int)(v5:Int),Ans (dH v0 n v3 v5) (Cz (q0:=q0) v0 v3 v4 v5):=by
 induction n with
 |zero=>intros;exact Ans.none
 |succ n d =>
  intro v3 v5;unfold dH;apply NQ<;>intro c
  ·refine NS (fun e => ?_);apply NQ<;>intro f
   ·have r:mg (fu q0 v0 v3 v4 v5) .normal (fu q0 v0 v3 v4 (inc v5)):=RP [N2 (v0.length:Int),.b true,rT] (ALn v0 (GTask.t q0)<|AC c<|AV (ψ:=fun k=>E.C k 59 [.one (.s .far () 1 (((v3.map etI).drop 0).take (v3.map etI).length)),NZ v5]=some [NX true]) (NU (by simp only[OX,OR]) (NT (qP v3 v5 e) (by rw[f])))<|AN);exact(d v3 (inc v5)).mono fun y a=>by cases y<;>exact NO r a
   ·refine NR (fun y a => ?_);replace a:=Cw (q0:=q0) v0 v3 v4 v5 9223372036854775808 true 0 y a;cases y with
    |x4 b =>
     have g:=a;cases b with
     |true =>refine NS (fun i => ?_);have r:mg (fu q0 v0 v3 v4 v5) .normal (fu q0 v0 (v3++([v5])) v4 (inc (v0.length:Int))):=RP [N2 (v0.length:Int),.b true,rF,.lp (.exit 4) (iM q0 v0 v3 v4 v5 true),.rows ((v3++([v5])).map etI),N2 (v0.length:Int)] (ALn v0 (GTask.t q0)<|AC c<|AV (ψ:=fun k=>E.C k 59 [.one (.s .far () 1 (((v3.map etI).drop 0).take (v3.map etI).length)),NZ v5]=some [NX false]) (NU (by simp only[OX,OR]) (NT (qP v3 v5 e) (by rw[f])))<|AL g<|AAp etI (fun _=>rfl) i<|ALn v0 (GTask.t q0)<|AN);exact(d (v3++([v5])) (inc (v0.length:Int))).mono fun y a=>by cases y<;>exact NO r a
     |false =>have r:mg (fu q0 v0 v3 v4 v5) .normal (fu q0 v0 v3 v4 (inc v5)):=RP [N2 (v0.length:Int),.b true,rF,.lp (.exit 4) (iM q0 v0 v3 v4 v5 false)] (ALn v0 (GTask.t q0)<|AC c<|AV (ψ:=fun k=>E.C k 59 [.one (.s .far () 1 (((v3.map etI).drop 0).take (v3.map etI).length)),NZ v5]=some [NX false]) (NU (by simp only[OX,OR]) (NT (qP v3 v5 e) (by rw[f])))<|AL g<|AN);exact(d v3 (inc v5)).mono fun y a=>by cases y<;>exact NO r a
  ·exact NN (NP (show mg (fu q0 v0 v3 v4 v5) (.exit 2) (nF q0 v0 v4 v3)from RP [N2 (v0.length:Int),.b false] (ALn v0 (GTask.t q0)<|AC c<|AN)) (by intro h;cases h))
inductive uJ where|x0 (v3:List Int)
def mi (q0:Kd)(v0:List GTask)(v3:List Int)(v4:Int):US:=stL 57 [(0,.one (.s .far () 5 (v0.map (GTask.t q0)))),(3,.one (.s .own () 1 (v3.map etI))),(4,NZ v4)]
def nE (q0:Kd)(a:List Int):US:=stL 57 [(3,.one (.s .own () 1 (a.map etI)))]
abbrev uI:US→Exit→US→Prop:=Round E 39 (aw Tryz.f39 0)
def Cy {q0:Kd}(v0:List GTask)(v3:List Int)(v4:Int):uJ→Prop| .x0 a=>Loops E 39 (aw Tryz.f39 0) (mi q0 v0 v3 v4) (.exit 0) (nE q0 a)
noncomputable def gr (v0:List GTask):List GTask→Nat→(List Int)→Option uJ
 |[],i,v3=>some (.x0 v3)
 |hd::rest,i,v3=>(dH v0 9223372036854775808 v3 0).bind fun y=>match y with
  | .x2 a=>(gr v0 rest (i+1) a)
theorem Cu {q0:Kd}(v0:List GTask)(rest:List GTask):∀(i:Nat)(v3:List Int),(v0).drop i=rest→v0.length≤9223372036854775807→Ans (gr v0 rest i v3) (Cy (q0:=q0) v0 v3 (i:Int)):=by
 induction rest with
 |nil =>intro i v3 b d;have hb:=bw b;unfold gr;exact NN (NP (show uI (mi q0 v0 v3 (i:Int)) (.exit 0) (nE q0 v3)from RP [N2 (v0.length:Int),.b false] (ALn v0 (GTask.t q0)<|AC hb<|AN)) (by intro h;cases h))
 |cons hd rest f =>
  intro i v3 b d;have hb:=a8 b;have g:=ba b d;have e:=aG b;have k:=bc b;unfold gr;refine NR (fun y c => ?_);replace c:=Cv (q0:=q0) v0 (i:Int) 9223372036854775808 v3 0 y c;cases y with
  |x2 a =>have j:=c;exact(f (i+1) a e d).mono fun y c=>by have r:uI (mi q0 v0 v3 (i:Int)) .normal (mi q0 v0 a (inc (i:Int))):=RP [N2 (v0.length:Int),.b true,.lp (.exit 2) (nF q0 v0 (i:Int) a)] (ALn v0 (GTask.t q0)<|AC hb<|AL j<|AN);rw[g]at r;cases y<;>exact NO r c
noncomputable def nG (x0:List GTask):Option ((List Int)):=
  if x0.length≤9223372036854775807 then(gr x0 x0 0 ([])).bind fun y=>match y with
   | .x0 a=>(some (a))else none
theorem E0 {q0:Kd}(x0:List GTask):Ans (nG x0) (fun r=>Does E 39 [.one (.s .far () 5 (x0.map (GTask.t q0)))] [(false,[.s .own () 1 (r.map etI)])]):=by
 unfold nG;refine NS (fun b => ?_);refine NR (fun y c => ?_);replace c:=Cu (q0:=q0) x0 x0 0 ([]) rfl b y c;cases y with
 |x0 a =>have d:=c;exact NN (DP Tryz.f39 [.lp (.exit 0) (nE q0 a)] (AL d<|AN))
theorem ES (ts:List GTask)(o:List Int)(i:Nat)(t:GTask)(c:ts.length≤1050000)(d:o.length≤1050000)(hi:ts[i]?=some t)(hf:t.f4.length≤1050000):∀(m k n:Nat)(b:Bool),k+m=t.f4.length→m<n →
  fv ts o (i:Int) n b (k:Int)=some (.x4 (b&&((t.f4.drop k).all fun x=>cH o (ar ts x))))
 |m,k,0,b,_,g=>by omega
 |m,k,n+1,b,j,g=>by
  have f:ap ts (i:Int)=some t:=by rw[ex];exact hi
  unfold fv;cases m with
  |zero =>have hd:t.f4.drop k=[]:=OV (by omega);rw[hd];cases b<;>(simp only[f,N4];rw[Oe (by omega)];rfl)
  |succ m =>
   have a:∃x,t.f4[k]?=some x:=⟨t.f4[k]'(by omega),Oa (by omega)⟩
   obtain⟨x,a⟩:=a;have hd:t.f4.drop k=x::t.f4.drop (k+1):=by rw[PB (by omega:k<t.f4.length)];rw[Oa (by omega)]at a;rw[P4 a]
   have e:inc (k:Int)=((k+1:Nat):Int):=by rw[eJ _ (by omega) (by omega)];omega
   rw[hd,PH];cases b with
   |false =>simp only[f,N4];rw[Of (by omega),Om,e,ES ts o i t c d hi hf m (k+1) n false (by omega) (by omega)];rfl
   |true =>
    have h:ap t.f4 (k:Int)=some x:=by rw[ex];exact a
    simp only[f,N4];rw[Of (by omega),Om,h,N4,N5 c,N5 d,e,ES ts o i t c d hi hf m (k+1) n _ (by omega) (by omega)];rfl
theorem Hc (ts:List GTask)(hs:ae.sm ts)(b:dg ts)(o:List Int)(l:o.length≤1000):∀(m i n:Nat),i+m=ts.length→m+1<n →
  dH ts n o (i:Int)=some (.x2 (match fb o ts (ts.drop i) i with|some k=>o++[(k:Int)]|none=>o))
 |m,i,0,_,p=>by omega
 |m,i,n+1,hi,p=>by
  have q:=b.1;unfold dH;cases m with
  |zero =>have hd:ts.drop i=[]:=OV (by omega);rw[hd,Oe (by omega)];rfl
  |succ m =>
   have a:i<ts.length:=by omega
   have f:ts[i]?=some ts[i]:=Oa a;have hd:ts.drop i=ts[i]::ts.drop (i+1):=PB a;have hf:ts[i].f4.length≤1050000:=(hs.2 ts[i] (PE _)).2.2.1;have e:inc (i:Int)=((i+1:Nat):Int):=by rw[eJ _ (by omega) (by omega)];omega
   have c:=b.2 i _ f;have g:=ES ts o i ts[i] hs.1 (by omega) f hf ts[i].f4.length 0 9223372036854775808 true (by omega) (by omega);have h:=Hc ts hs b o l m (i+1) n (by omega) (by omega);rw[OR,OG]at g;have d:fv ts o (i:Int) 9223372036854775808 true (0:Int)=some (.x4 (qV ts o ts[i])):=g;rw[Of (by omega),Om,N5 (by omega),hd,d,e];unfold fb;rw[c];cases cH o (i:Int)with
   |true=>rw[Om,h];rfl
   |false =>
    rw[Ou,N4];cases qV ts o ts[i]with
    |false =>simp only[h];rfl
    |true =>
     have stop:∀w,dH ts n w (inc (ts.length:Int))=some (.x2 w):=fun w=>by
      obtain⟨n,rfl⟩:∃j,n=j+1:=⟨n-1,by omega⟩
      unfold dH;rw[eJ _ (by omega) (by omega),Oe (by omega)];rfl
     simp only[stop];rw[N5 (by simp;omega)];rfl
theorem ye (ts:List GTask)(hs:ae.sm ts)(a:dg ts):∀(l:List GTask)(i:Nat)(o:List Int),o.length+l.length≤1000→gr ts l i o=some (.x0 (jf ts l.length o))
 |[],i,o,_=>rfl
 |x::l,i,o,b=>by
  have c:=a.1;simp only[OI]at b;unfold gr;have r:=Hc ts hs a o (by omega) ts.length 0 9223372036854775808 (by omega) (by omega);rw[OR]at r;refine(Ov (Option.bind · _) r).trans ?_;rw[N4];simp only[OI];unfold jf;cases q:fb o ts ts 0 with
  |none =>
   simp only;rw[ye ts hs a l (i+1) o (by omega)];have:∀k,jf ts k o=o:=fun k=>by
    cases k with
    |zero=>rfl
    |succ k=>unfold jf;rw[q]
   rw[this]
  |some k =>simp only;exact ye ts hs a l (i+1) _ (by simp;omega)
theorem L3 (ts:List GTask)(hs:ae.sm ts)(a:dg ts):nG ts=some (dA ts):=by have b:=a.1;unfold nG;rw[N5 (by omega),ye ts hs a ts 0 [] (by simp;omega)];rfl
theorem u3 {q0:Kd}(x0:List GTask)(h:ae.sm x0)(a:dg x0):Does E 39 [.one (.s .far () 5 (x0.map (GTask.t q0)))] [(false,[.s .own () 1 ((dA x0).map etI)])]:=by exact E0 x0 _ (L3 x0 h a)
inductive xi where|ret (v2:Bool)|x0
def fD (a b:ByteArray)(c:Int)(d:Bool)(e v28:List ByteArray)(f g:Int):US:=stL 54 [(1,.box () [tS a,tS b,tI c,tB d,.s .far () 1 (e.map etS)]),(28,.one (.s .far () 1 (v28.map etS))),(29,NZ f),(30,NZ g)]
def lc (a:Bool):US:=stL 54 [(2,N0 a)]
def o5  : US:=stL 54 []
abbrev lT:US→Exit→US→Prop:=Round E 65 (aw Tryz.f65 0)
def F3 (a b:ByteArray)(c:Int)(d:Bool)(e v28:List ByteArray)(f g:Int):xi→Prop| .ret h=>Loops E 65 (aw Tryz.f65 0) (fD a b c d e v28 f g) .ret (lc h)| .x0=>Loops E 65 (aw Tryz.f65 0) (fD a b c d e v28 f g) (.exit 0) (o5)
noncomputable def gH (a:ByteArray)(b:List ByteArray):List ByteArray→Nat→Bool→Option xi|[],i,c=>some (.x0)|hd::rest,i,c=>cond (hd.toList==a.toList) (some (.ret false)) (cond (decide ((i:Int)>(0:Int))) ((ap b (IntKind.wrap .i64 ((i:Int)-(1:Int)))).bind fun g1=>cond (Op.bytesLess hd.toList g1.toList ||hd.toList==g1.toList) (some (.ret false)) (gH a b rest (i+1) c)) (gH a b rest (i+1) c))
theorem F2 (b d:ByteArray)(e:Int)(c v28:List ByteArray)(rest:List ByteArray):∀(i:Nat)(a:Bool),(v28).drop i=rest→v28.length≤9223372036854775807→Ans (gH b c rest i a) (F3 b d e a c v28 (v28.length:Int) (i:Int)):=by
 induction rest with
 |nil =>intro i a f j;have hb:=bw f;unfold gH;exact NN (NP (show lT (fD b d e a c v28 (v28.length:Int) (i:Int)) (.exit 0) (o5)from RP [.b false] (AC hb<|AN)) (by intro h;cases h))
 |cons hd rest o =>
  intro i a f j;have hb:=a8 f;have p:=ba f j;have g:=aG f;have k:=bc f;unfold gH;apply NQ<;>intro l
  ·exact NN (NP (show lT (fD b d e a c v28 (v28.length:Int) (i:Int)) .ret (lc false)from RP [.b true,.row (etS hd),.b true] (AC hb<|AR etS k<|AC l<|AN)) (by intro h;cases h))
  ·apply NQ<;>intro m
   ·refine NR (fun g1 q => ?_);apply NQ<;>intro s
    ·exact NN (NP (show lT (fD b d e a c v28 (v28.length:Int) (i:Int)) .ret (lc false)from RP [.b true,.row (etS hd),.b false,.b true,.row (etS g1),.b true] (AC hb<|AR etS k<|AC l<|AC m<|AR etS q<|AC s<|AN)) (by intro h;cases h))
    ·exact(o (i+1) a g j).mono fun y n=>by have r:lT (fD b d e a c v28 (v28.length:Int) (i:Int)) .normal (fD b d e a c v28 (v28.length:Int) (inc (i:Int))):=RP [.b true,.row (etS hd),.b false,.b true,.row (etS g1),.b false] (AC hb<|AR etS k<|AC l<|AC m<|AR etS q<|AC s<|AN);rw[p]at r;cases y<;>exact NO r n
   ·exact(o (i+1) a g j).mono fun y n=>by have r:lT (fD b d e a c v28 (v28.length:Int) (i:Int)) .normal (fD b d e a c v28 (v28.length:Int) (inc (i:Int))):=RP [.b true,.row (etS hd),.b false,.b false] (AC hb<|AR etS k<|AC l<|AC m<|AN);rw[p]at r;cases y<;>exact NO r n
noncomputable def pC (x0:GTask):Option (Bool):=
  if x0.f0.size≤2000000 then cond (ef x0.f0)
   (cond ((b8 x0.f1)==(0:Int))
    (some (false))
    (cond (ag x0.f2 0 3)
     (cond (decide ((x0.f4.length:Int)>(4:Int)))
      (some (false))
      (if x0.f4.length≤9223372036854775807 then(gH x0.f0 x0.f4 x0.f4 0 x0.f3).bind fun y=>match y with
       | .ret a=>(some (a))
       | .x0=>(some (true))else none))
     (some (false))))
   (some (false))else none
theorem Ie (x0:GTask):Ans (pC x0) (fun r=>Does E 65 [.agg (GTask.t .far x0)] [NX r]):=by
 unfold pC;refine NS (fun a => ?_);apply NQ<;>intro b
 ·apply NQ<;>intro c
  ·exact NN (DP Tryz.f65 [rT,.ret [NW (b8 x0.f1)],.b true] (AD (NV (dj x0.f0 a) b)<|AD (ky x0.f1)<|AC c<|AN))
  ·apply NQ<;>intro e
   ·apply NQ<;>intro g
    ·exact NN (DP Tryz.f65 [rT,.ret [NW (b8 x0.f1)],.b false,rT,N2 (x0.f4.length:Int),.b true] (AD (NV (dj x0.f0 a) b)<|AD (ky x0.f1)<|AC c<|AD (NV (ay x0.f2 0 3) e)<|ALn x0.f4 etS<|AC g<|AN))
    ·refine NS (fun h => ?_);refine NR (fun y f => ?_);replace f:=F2 x0.f0 x0.f1 x0.f2 x0.f4 x0.f4 x0.f4 0 x0.f3 rfl h y f;cases y with
     |ret d =>have i:=f;exact NN (DP Tryz.f65 [rT,.ret [NW (b8 x0.f1)],.b false,rT,N2 (x0.f4.length:Int),.b false,N2 (x0.f4.length:Int),.lp .ret (lc d)] (AD (NV (dj x0.f0 a) b)<|AD (ky x0.f1)<|AC c<|AD (NV (ay x0.f2 0 3) e)<|ALn x0.f4 etS<|AC g<|ALn x0.f4 etS<|AL i<|AN))
     |x0 =>have i:=f;exact NN (DP Tryz.f65 [rT,.ret [NW (b8 x0.f1)],.b false,rT,N2 (x0.f4.length:Int),.b false,N2 (x0.f4.length:Int),.lp (.exit 0) (o5)] (AD (NV (dj x0.f0 a) b)<|AD (ky x0.f1)<|AC c<|AD (NV (ay x0.f2 0 3) e)<|ALn x0.f4 etS<|AC g<|ALn x0.f4 etS<|AL i<|AN))
   ·exact NN (DP Tryz.f65 [rT,.ret [NW (b8 x0.f1)],.b false,rF] (AD (NV (dj x0.f0 a) b)<|AD (ky x0.f1)<|AC c<|AD (NV (ay x0.f2 0 3) e)<|AN))
 ·exact NN (DP Tryz.f65 [rF] (AD (NV (dj x0.f0 a) b)<|AN))
inductive wu where|ret (v4:Bool)|x0
def bK (q0:Kd)(v0:List GTask)(a b:ByteArray)(c:Int)(d:Bool)(v5_4:List ByteArray)(v6:Int):US:=stL 78 [(0,.one (.s .far () 5 (v0.map (GTask.t q0)))),(5,.box () [tS a,tS b,tI c,tB d,.s .far () 1 (v5_4.map etS)]),(6,NZ v6)]
def d6 (q0:Kd)(a:Bool):US:=stL 78 [(4,N0 a)]
def ls (q0:Kd)  : US:=stL 78 []
abbrev cY:US→Exit→US→Prop:=Round E 57 (aw Tryz.f57 0)
def E2 {q0:Kd}(v0:List GTask)(a b:ByteArray)(c:Int)(d:Bool)(v5_4:List ByteArray)(v6:Int):wu→Prop| .ret e=>Loops E 57 (aw Tryz.f57 0) (bK q0 v0 a b c d v5_4 v6) .ret (d6 q0 e)| .x0=>Loops E 57 (aw Tryz.f57 0) (bK q0 v0 a b c d v5_4 v6) (.exit 0) (ls q0)
theorem AE {q0:Kd}(v0:List GTask)(b c:ByteArray)(d:Int)(e:Bool)(v5_4:List ByteArray)(v6:Int)(a:ByteArray)(f:(decide (v6<(v5_4.length:Int)))=true)(g:ap v5_4 v6=some a)(h:v0.length≤1050000)(i:(decide ((ar v0 a)<(0:Int)))=true):cY (bK q0 v0 b c d e v5_4 v6) .ret (d6 q0 false):=
 RP [N2 (v5_4.length:Int),.b true,.row (etS a),.ret [NW (ar v0 a)],.b true] (ALn v5_4 etS<|AC f<|AR etS g<|AV (ψ:=fun k=>E.C k 60 [.one (.s .far () 5 (v0.map (GTask.t q0))),N1 a]=some [NW (ar v0 a)]) (fL v0 a h)<|AC i<|AN)
theorem AF {q0:Kd}(v0:List GTask)(b c:ByteArray)(d:Int)(e:Bool)(v5_4:List ByteArray)(v6:Int)(a:ByteArray)(g:(decide (v6<(v5_4.length:Int)))=true)(f:ap v5_4 v6=some a)(h:v0.length≤1050000)(i:(decide ((ar v0 a)<(0:Int)))=false)(j:(a.toList==b.toList)=true):cY (bK q0 v0 b c d e v5_4 v6) .ret (d6 q0 false):=
 RP [N2 (v5_4.length:Int),.b true,.row (etS a),.ret [NW (ar v0 a)],.b false,.row (etS a),.b true] (ALn v5_4 etS<|AC g<|AR etS f<|AV (ψ:=fun k=>E.C k 60 [.one (.s .far () 5 (v0.map (GTask.t q0))),N1 a]=some [NW (ar v0 a)]) (fL v0 a h)<|AC i<|AR etS f<|AC j<|AN)
theorem AH {q0:Kd}(v0:List GTask)(b c:ByteArray)(d:Int)(e:Bool)(v5_4:List ByteArray)(v6:Int)(a g1:ByteArray)(g:(decide (v6<(v5_4.length:Int)))=true)(f:ap v5_4 v6=some a)(h:v0.length≤1050000)(i:(decide ((ar v0 a)<(0:Int)))=false)(j:(a.toList==b.toList)=false)(l:(decide (v6>(0:Int)))=true)(m:ap v5_4 (IntKind.wrap .i64 (v6-(1:Int)))=some g1)(n:(!Op.bytesLess g1.toList a.toList)=true):cY (bK q0 v0 b c d e v5_4 v6) .ret (d6 q0 false):=
 RP [N2 (v5_4.length:Int),.b true,.row (etS a),.ret [NW (ar v0 a)],.b false,.row (etS a),.b false,.b true,.row (etS g1),.row (etS a),.b true] (ALn v5_4 etS<|AC g<|AR etS f<|AV (ψ:=fun k=>E.C k 60 [.one (.s .far () 5 (v0.map (GTask.t q0))),N1 a]=some [NW (ar v0 a)]) (fL v0 a h)<|AC i<|AR etS f<|AC j<|AC l<|AR etS m<|AR etS f<|AC n<|AN)
theorem AI {q0:Kd}(v0:List GTask)(a c:ByteArray)(d:Int)(e:Bool)(v5_4:List ByteArray)(v6:Int)(b g1:ByteArray)(g:(decide (v6<(v5_4.length:Int)))=true)(f:ap v5_4 v6=some b)(h:v0.length≤1050000)(i:(decide ((ar v0 b)<(0:Int)))=false)(j:(b.toList==a.toList)=false)(l:(decide (v6>(0:Int)))=true)(m:ap v5_4 (IntKind.wrap .i64 (v6-(1:Int)))=some g1)(n:(!Op.bytesLess g1.toList b.toList)=false):cY (bK q0 v0 a c d e v5_4 v6) .normal (bK q0 v0 a c d e v5_4 (inc v6)):=
 RP [N2 (v5_4.length:Int),.b true,.row (etS b),.ret [NW (ar v0 b)],.b false,.row (etS b),.b false,.b true,.row (etS g1),.row (etS b),.b false] (ALn v5_4 etS<|AC g<|AR etS f<|AV (ψ:=fun k=>E.C k 60 [.one (.s .far () 5 (v0.map (GTask.t q0))),N1 b]=some [NW (ar v0 b)]) (fL v0 b h)<|AC i<|AR etS f<|AC j<|AC l<|AR etS m<|AR etS f<|AC n<|AN)
theorem AJ {q0:Kd}(v0:List GTask)(a c:ByteArray)(d:Int)(e:Bool)(v5_4:List ByteArray)(v6:Int)(b:ByteArray)(g:(decide (v6<(v5_4.length:Int)))=true)(f:ap v5_4 v6=some b)(h:v0.length≤1050000)(i:(decide ((ar v0 b)<(0:Int)))=false)(j:(b.toList==a.toList)=false)(l:(decide (v6>(0:Int)))=false):cY (bK q0 v0 a c d e v5_4 v6) .normal (bK q0 v0 a c d e v5_4 (inc v6)):=
 RP [N2 (v5_4.length:Int),.b true,.row (etS b),.ret [NW (ar v0 b)],.b false,.row (etS b),.b false,.b false] (ALn v5_4 etS<|AC g<|AR etS f<|AV (ψ:=fun k=>E.C k 60 [.one (.s .far () 5 (v0.map (GTask.t q0))),N1 b]=some [NW (ar v0 b)]) (fL v0 b h)<|AC i<|AR etS f<|AC j<|AC l<|AN)
theorem AK {q0:Kd}(v0:List GTask)(a b:ByteArray)(c:Int)(d:Bool)(v5_4:List ByteArray)(v6:Int)(e:(decide (v6<(v5_4.length:Int)))=false):cY (bK q0 v0 a b c d v5_4 v6) (.exit 0) (ls q0):=
 RP [N2 (v5_4.length:Int),.b false] (ALn v5_4 etS<|AC e<|AN)
noncomputable def fV (v0:List GTask)(a:ByteArray)(v5_4:List ByteArray):List ByteArray→Nat→Bool→Option wu|[],i,b=>some (.x0)|hd::rest,i,b=>if v0.length≤1050000 then cond (decide ((ar v0 hd)<(0:Int))) (some (.ret false)) (cond (hd.toList==a.toList) (some (.ret false)) (cond (decide ((i:Int)>(0:Int))) ((ap v5_4 (IntKind.wrap .i64 ((i:Int)-(1:Int)))).bind fun g1=>cond (!Op.bytesLess g1.toList hd.toList) (some (.ret false)) (fV v0 a v5_4 rest (i+1) b)) (fV v0 a v5_4 rest (i+1) b)))else none
theorem E1 {q0:Kd}(v0:List GTask)(b c:ByteArray)(d:Int)(v5_4:List ByteArray)(rest:List ByteArray):∀(i:Nat)(a:Bool),(v5_4).drop i=rest→v5_4.length≤9223372036854775807→Ans (fV v0 b v5_4 rest i a) (E2 (q0:=q0) v0 b c d a v5_4 (i:Int)):=by
 induction rest with
 |nil =>intro i a e l;have hb:=bw e;unfold fV;exact NN (NP (show cY (bK q0 v0 b c d a v5_4 (i:Int)) (.exit 0) (ls q0)from AK (q0:=q0) v0 b c d a v5_4 (i:Int) hb) (by intro h;cases h))
 |cons hd rest p =>
  intro i a e l;have hb:=a8 e;have q:=ba e l;have f:=aG e;have g:=bc e;unfold fV;refine NS (fun j => ?_);apply NQ<;>intro k
  ·exact NN (NP (show cY (bK q0 v0 b c d a v5_4 (i:Int)) .ret (d6 q0 false)from AE (q0:=q0) v0 b c d a v5_4 (i:Int) hd hb g j k) (by intro h;cases h))
  ·apply NQ<;>intro m
   ·exact NN (NP (show cY (bK q0 v0 b c d a v5_4 (i:Int)) .ret (d6 q0 false)from AF (q0:=q0) v0 b c d a v5_4 (i:Int) hd hb g j k m) (by intro h;cases h))
   ·apply NQ<;>intro n
    ·refine NR (fun g1 s => ?_);apply NQ<;>intro t
     ·exact NN (NP (show cY (bK q0 v0 b c d a v5_4 (i:Int)) .ret (d6 q0 false)from AH (q0:=q0) v0 b c d a v5_4 (i:Int) hd g1 hb g j k m n s t) (by intro h;cases h))
     ·exact(p (i+1) a f l).mono fun y o=>by have r:cY (bK q0 v0 b c d a v5_4 (i:Int)) .normal (bK q0 v0 b c d a v5_4 (inc (i:Int))):=AI (q0:=q0) v0 b c d a v5_4 (i:Int) hd g1 hb g j k m n s t;rw[q]at r;cases y<;>exact NO r o
    ·exact(p (i+1) a f l).mono fun y o=>by have r:cY (bK q0 v0 b c d a v5_4 (i:Int)) .normal (bK q0 v0 b c d a v5_4 (inc (i:Int))):=AJ (q0:=q0) v0 b c d a v5_4 (i:Int) hd hb g j k m n;rw[q]at r;cases y<;>exact NO r o
noncomputable def oC (x0:List GTask)(c:Int):Option (Bool):=
  (ap x0 c).bind fun a=>if a.f0.size≤2000000 then cond (ef a.f0)
   (if x0.length≤1050000 then cond ((ar x0 a.f0) != c)
    (some (false))
    (cond ((b8 a.f1)==(0:Int))
     (some (false))
     (cond (ag a.f2 0 3)
      (if a.f4.length≤9223372036854775807 then(fV x0 a.f0 a.f4 a.f4 0 a.f3).bind fun y=>match y with
       | .ret b=>(some (b))
       | .x0=>(some (true))else none)
      (some (false))))else none)
   (some (false))else none
theorem Gt {q0:Kd}(x0:List GTask)(n:Int):Ans (oC x0 n) (fun r=>Does E 57 [.one (.s .far () 5 (x0.map (GTask.t q0))),NZ n] [NX r]):=by
 unfold oC;refine NR (fun a b => ?_);refine NS (fun c => ?_);apply NQ<;>intro d
 ·refine NS (fun e => ?_);apply NQ<;>intro f
  ·exact NN (DP Tryz.f57 [.row ((GTask.t q0) a),rT,.ret [NW (ar x0 a.f0)],.b true] (AR (GTask.t q0) b<|AD (NV (cQ a.f0 c) d)<|AV (ψ:=fun k=>E.C k 60 [.one (.s .far () 5 (x0.map (GTask.t q0))),N1 a.f0]=some [NW (ar x0 a.f0)]) (fL x0 a.f0 e)<|AC f<|AN))
  ·apply NQ<;>intro h
   ·exact NN (DP Tryz.f57 [.row ((GTask.t q0) a),rT,.ret [NW (ar x0 a.f0)],.b false,.ret [NW (b8 a.f1)],.b true] (AR (GTask.t q0) b<|AD (NV (cQ a.f0 c) d)<|AV (ψ:=fun k=>E.C k 60 [.one (.s .far () 5 (x0.map (GTask.t q0))),N1 a.f0]=some [NW (ar x0 a.f0)]) (fL x0 a.f0 e)<|AC f<|AD (mT a.f1)<|AC h<|AN))
   ·apply NQ<;>intro j
    ·refine NS (fun l => ?_);refine NR (fun y i => ?_);replace i:=E1 (q0:=q0) x0 a.f0 a.f1 a.f2 a.f4 a.f4 0 a.f3 rfl l y i;cases y with
     |ret g =>have m:=i;exact NN (DP Tryz.f57 [.row ((GTask.t q0) a),rT,.ret [NW (ar x0 a.f0)],.b false,.ret [NW (b8 a.f1)],.b false,rT,.lp .ret (d6 q0 g)] (AR (GTask.t q0) b<|AD (NV (cQ a.f0 c) d)<|AV (ψ:=fun k=>E.C k 60 [.one (.s .far () 5 (x0.map (GTask.t q0))),N1 a.f0]=some [NW (ar x0 a.f0)]) (fL x0 a.f0 e)<|AC f<|AD (mT a.f1)<|AC h<|AD (NV (ah a.f2 0 3) j)<|AL m<|AN))
     |x0 =>have m:=i;exact NN (DP Tryz.f57 [.row ((GTask.t q0) a),rT,.ret [NW (ar x0 a.f0)],.b false,.ret [NW (b8 a.f1)],.b false,rT,.lp (.exit 0) (ls q0)] (AR (GTask.t q0) b<|AD (NV (cQ a.f0 c) d)<|AV (ψ:=fun k=>E.C k 60 [.one (.s .far () 5 (x0.map (GTask.t q0))),N1 a.f0]=some [NW (ar x0 a.f0)]) (fL x0 a.f0 e)<|AC f<|AD (mT a.f1)<|AC h<|AD (NV (ah a.f2 0 3) j)<|AL m<|AN))
    ·exact NN (DP Tryz.f57 [.row ((GTask.t q0) a),rT,.ret [NW (ar x0 a.f0)],.b false,.ret [NW (b8 a.f1)],.b false,rF] (AR (GTask.t q0) b<|AD (NV (cQ a.f0 c) d)<|AV (ψ:=fun k=>E.C k 60 [.one (.s .far () 5 (x0.map (GTask.t q0))),N1 a.f0]=some [NW (ar x0 a.f0)]) (fL x0 a.f0 e)<|AC f<|AD (mT a.f1)<|AC h<|AD (NV (ah a.f2 0 3) j)<|AN))
 ·exact NN (DP Tryz.f57 [.row ((GTask.t q0) a),rF] (AR (GTask.t q0) b<|AD (NV (cQ a.f0 c) d)<|AN))
def asc (self:ByteArray):List ByteArray→Option ByteArray→Bool
 |[],_=>true
 |x::l,p => !(x.toList==self.toList)&&(match p with|some y=>Op.bytesLess y.toList x.toList|none=>true)&&asc self l (some x)
theorem Ej:∀a b:List UInt8,(Op.bytesLess a b ||a==b)= !Op.bytesLess b a
 |[],[]=>rfl
 |[],_::_=>rfl
 |_::_,[]=>rfl
 |x::a,y::b=>by
  have g:=Ej a b;unfold Op.bytesLess;have e:(x::a==y::b)=(x==y&&a==b):=rfl;rw[e];rcases Qi x.toNat y.toNat with h|h|h
  ·have d:x<y:=PD.2 h;have c:¬y<x:=fun q=>by have:=PD.1 q;omega
   have f:(y==x)=false:=by rw[O3];intro q;subst q;omega
   simp[d,c,f]
  ·have i:x=y:=Q3.1 h;subst i;have c:¬x<x:=fun q=>by have:=PD.1 q;omega
   simp only[c,decide_false,QQ,beq_self_eq_true,OG];exact g
  ·have d:y<x:=PD.2 h;have c:¬x<y:=fun q=>by have:=PD.1 q;omega
   have f:(x==y)=false:=by rw[O3];intro q;subst q;omega
   simp[d,c,f]
theorem xj:∀a:List UInt8,Op.bytesLess a a=false
 |[]=>rfl
 |x::a=>by
  unfold Op.bytesLess;have b:¬x<x:=fun q=>by have:=PD.1 q;omega
  simp[b,xj a]
theorem zc:∀{a b c:List UInt8},Op.bytesLess a b=true→Op.bytesLess b c=true→Op.bytesLess a c=true
 |[],[],_,h,_=>by cases h
 |[],_::_,[],_,h=>by cases h
 |[],_::_,_::_,_,_=>rfl
 |_::_,[],_,h,_=>by cases h
 |_::_,_::_,[],_,h=>by cases h
 |x::a,y::b,z::c,e,d=>by
  unfold Op.bytesLess at *;simp only[QF,O4,Ow,PK,PD]at *;rcases e with e|⟨rfl,e⟩
  ·rcases d with d|⟨rfl,d⟩
   ·exact .inl (by omega)
   ·exact .inl e
  ·rcases d with d|⟨rfl,d⟩
   ·exact .inl d
   ·exact .inr ⟨rfl,zc e d⟩
theorem qQ (self:ByteArray):∀(l:List ByteArray)(p:Option ByteArray),asc self l p=true→(l.map tx).Nodup∧∀y,p=some y→∀x∈l,Op.bytesLess (tx y) (tx x)=true
 |[],p,_=>⟨by simp,fun y _ x hx=>by cases hx⟩
 |z::l,p,h=>by
  unfold asc at h;simp only[Ow]at h;obtain⟨c,d⟩:=qQ self l (some z) h.2;have a:=d z rfl;refine⟨?_,fun y e x hx => ?_⟩
  ·rw[Oq,QG];refine⟨fun q => ?_,c⟩;obtain⟨w,f,e⟩:=Oo.1 q;have:=a w f;rw[e,xj]at this;cases this
  ·subst e;have b:Op.bytesLess (tx y) (tx z)=true:=by have:=h.1.2;simp only[zR]at this;exact this
   rcases OB.1 hx with rfl|hx
   ·exact b
   ·exact zc b (a x hx)
theorem Hh {α:Type}[DecidableEq α]:∀{l m:List α},l.Nodup→(∀x∈l,x∈m)→l.length≤m.length
 |[],_,_,_=>Qm _
 |x::l,m,h,a=>by
  rw[QG]at h;have b:=a x (by simp);have:=Hh (l:=l) (m:=m.erase x) h.2 fun y c=>(List.mem_erase_of_ne (fun e=>h.1 (by rw[←e];exact c))).2 (a y (by simp[c]))
  rw[QY b]at this;have:0<m.length:=List.length_pos_of_mem b;simp only[OI];omega
theorem Lu (self:ByteArray)(aF:List ByteArray)(c:aF.length≤1050000):∀(rest:List ByteArray)(i:Nat)(z:Bool),aF.drop i=rest→gH self aF rest i z=some (cond (asc self rest (if i=0 then none else aF[i-1]?)) .x0 (.ret false))
 |[],i,z,_=>rfl
 |x::rest,i,z,h=>by
  have a:=Lu self aF c rest (i+1) z (aG h);have d:(if i+1=0 then none else aF[i+1-1]?)=some x:=by rw[Oh (by omega)];show aF[i]?=some x;rw[←Qn,h];rfl
  rw[d]at a;unfold gH asc;rw[a];cases x.toList==self.toList with
  |true=>rfl
  |false =>
   rw[Ou];by_cases q:i=0
   ·subst q;rw[Oe (by omega),N5 rfl,Ou];rfl
   ·have hi:i-1<aF.length:=by
     rcases Od i aF.length with g|g
     ·omega
     ·rw[OV g]at h;cases h
    have e:i≤aF.length:=by
     rcases Od i aF.length with g|g
     ·omega
     ·rw[OV g]at h;cases h
    have b:aF[i-1]?=some aF[i-1]:=Oa hi;have f:ap aF (IntKind.wrap .i64 ((i:Int)-1))=some aF[i-1]:=by rw[du _ (by omega) (by omega),show((i:Int)-1)=((i-1:Nat):Int) by omega,ex,b]
    rw[Of (by omega),Oh q,Om,f,N4,b,Ej];simp only[Qp,OG];cases Op.bytesLess aF[i-1].toList x.toList<;>rfl
theorem Lv (ts:List GTask)(a:ts.length≤1050000)(self:ByteArray)(aF:List ByteArray)(d:aF.length≤1050000):∀(rest:List ByteArray)(i:Nat)(z:Bool),aF.drop i=rest→fV ts self aF rest i z=some (cond (asc self rest (if i=0 then none else aF[i-1]?)&&rest.all fun n=>decide (0≤ar ts n)) .x0 (.ret false))
 |[],i,z,_=>rfl
 |x::rest,i,z,h=>by
  have b:=Lv ts a self aF d rest (i+1) z (aG h);have e:(if i+1=0 then none else aF[i+1-1]?)=some x:=by rw[Oh (by omega)];show aF[i]?=some x;rw[←Qn,h];rfl
  rw[e]at b;unfold fV asc;rw[b,N5 a,PH];by_cases w:ar ts x<0
  ·rw[Of w,Oe (by omega:¬ 0≤ar ts x),Qo,P1];rfl
  ·rw[Oe w,Of (by omega:0≤ar ts x),OG,Ou];cases x.toList==self.toList with
   |true=>rfl
   |false =>
    rw[Ou];by_cases q:i=0
    ·subst q;rw[Oe (by omega),N5 rfl,Ou];rfl
    ·have hi:i-1<aF.length:=by
      rcases Od i aF.length with g|g
      ·omega
      ·rw[OV g]at h;cases h
     have f:i≤aF.length:=by
      rcases Od i aF.length with g|g
      ·omega
      ·rw[OV g]at h;cases h
     have c:aF[i-1]?=some aF[i-1]:=Oa hi;have j:ap aF (IntKind.wrap .i64 ((i:Int)-1))=some aF[i-1]:=by rw[du _ (by omega) (by omega),show((i:Int)-1)=((i-1:Nat):Int) by omega,ex,c]
     rw[Of (by omega),Oh q,Om,j,N4,c];simp only[Qp,OG];cases Op.bytesLess aF[i-1].toList x.toList<;>rfl
noncomputable def qI (t:GTask):Bool:=ef t.f0&&((b8 t.f1 != 0)&&(ag t.f2 0 3&&(decide (t.f4.length≤4)&&asc t.f0 t.f4 none)))
noncomputable def ic (ts:List GTask)(i:Int)(t:GTask):Bool:=ef t.f0&&((ar ts t.f0==i)&&((b8 t.f1 != 0)&&(ag t.f2 0 3&&(asc t.f0 t.f4 none&&t.f4.all fun n=>decide (0≤ar ts n)))))
noncomputable def mO (ts:List GTask)(i:Int):Bool:=match ap ts i with|some t=>ic ts i t|none=>false
theorem Hg {t:GTask}(h:ae.sm t):t.f0.size≤2000000:=by have:t.f0.size≤1050000:=h.1;omega
theorem Lq (t:GTask)(h:ae.sm t):pC t=some (qI t):=by
 have a:t.f4.length≤1050000:=h.2.2.1;unfold pC qI;rw[N5 (Hg h)];cases ef t.f0 with
 |false=>rfl
 |true =>
  have e:(b8 t.f1 != 0)= !(b8 t.f1==0):=rfl;rw[Om,OG,e];cases b8 t.f1==0 with
  |true=>rfl
  |false =>
   rw[Ou,Qp,OG];cases ag t.f2 0 3 with
   |false=>rfl
   |true =>
    rw[Om,OG];by_cases q:t.f4.length≤4
    ·rw[Oe (by omega),Ou,Of q,N5 (by omega),Lu t.f0 t.f4 a t.f4 0 t.f3 rfl,N5 rfl,OG];cases asc t.f0 t.f4 none<;>rfl
    ·rw[Of (by omega),Oe q];rfl
theorem GJ (ts:List GTask)(i:Int)(h:ae.sm ts)(hi:0≤i∧i<(ts.length:Int)):oC ts i=some (mO ts i):=by
 obtain⟨t,b,c⟩:=fi hi;have a:=h.2 t c;have d:t.f4.length≤1050000:=a.2.2.1;unfold oC mO ic;rw[b,N4,N5 (Hg a)];simp only;cases ef t.f0 with
 |false=>rfl
 |true =>
  have f:(ar ts t.f0 != i)= !(ar ts t.f0==i):=rfl;have e:(b8 t.f1 != 0)= !(b8 t.f1==0):=rfl;rw[Om,OG,N5 h.1,f,e];cases ar ts t.f0==i with
  |false=>rfl
  |true =>
   rw[Pq,Ou,OG];cases b8 t.f1==0 with
   |true=>rfl
   |false =>
    rw[Ou,Qp,OG];cases ag t.f2 0 3 with
    |false=>rfl
    |true =>rw[Om,OG,N5 (by omega),Lv ts h.1 t.f0 t.f4 d t.f4 0 t.f3 rfl,N5 rfl];cases(asc t.f0 t.f4 none&&t.f4.all fun n=>decide (0≤ar ts n))<;>rfl
theorem IQ (ts:List GTask)(f:ts.length≤4)(i:Int)(t:GTask):ic ts i t=(qI t&&((ar ts t.f0==i)&&t.f4.all fun n=>decide (0≤ar ts n))):=by
 unfold ic qI;by_cases q:asc t.f0 t.f4 none=true∧(t.f4.all fun n=>decide (0≤ar ts n))=true
 ·have a:t.f4.length≤4:=by
   have:=Hh (l:=t.f4.map tx) (m:=ts.map fun u=>tx u.f0) (qQ t.f0 t.f4 none q.1).1 (fun x b=>by obtain⟨n,c,rfl⟩:=Oo.1 b;have:=On.1 q.2 n c;obtain⟨u,d,e⟩:=GI (PL this);exact Oo.2 ⟨u,d,e⟩);simp only[OF]at this;omega
  rw[Of a,q.1,q.2];cases ef t.f0<;>cases ar ts t.f0==i<;>cases b8 t.f1 != 0<;>cases ag t.f2 0 3<;>rfl
 ·have hf:(asc t.f0 t.f4 none&&t.f4.all fun n=>decide (0≤ar ts n))=false:=by rw[←Ql,Ow];exact q
  rw[hf];revert hf;generalize (t.f4.all fun n=>decide (0≤ar ts n))=B;generalize asc t.f0 t.f4 none=A;generalize decide (t.f4.length≤4)=C;intro hf;cases A<;>cases B<;>simp at hf<;>cases ef t.f0<;>cases ar ts t.f0==i<;>cases b8 t.f1 != 0<;>cases ag t.f2 0 3<;>cases C<;>rfl
theorem pr (x0:GTask)(h:ae.sm x0):Does E 65 [.agg (GTask.t .far x0)] [NX (qI x0)]:=by exact Ie x0 _ (Lq x0 h)
theorem wX {q0:Kd}(x0:List GTask)(a:Int)(h:ae.sm x0)(hi:0≤a∧a<(x0.length:Int)):Does E 57 [.one (.s .far () 5 (x0.map (GTask.t q0))),NZ a] [NX (mO x0 a)]:=by exact Gt x0 a _ (GJ x0 a h hi)
noncomputable def pB (x0:ByteArray):Option (Bool):=cond ((au x0).2) (if ae.sm ((au x0).1)then some (((bf ((au x0).1)).1).toList==x0.toList)else none) (if ae.sm ((au x0).1)then some (false)else none)
theorem H8 (x0:ByteArray):Ans (pB x0) (fun r=>Does E 64 [N1 x0] [NX r]):=by
 unfold pB;apply NQ<;>intro b
 ·refine NS (fun a => ?_);exact NN (DP Tryz.f64 [.ret [(true,GCron.t .own ((au x0).1)),NX true],.ret [NY ((bf ((au x0).1)).1),NX ((bf ((au x0).1)).2)]] (AD (qM x0 b)<|AD (uV ((au x0).1) a)<|AN))
 ·refine NS (fun a => ?_);exact NN (DP Tryz.f64 [.ret [(true,GCron.t .own ((au x0).1)),NX false],.ret [NY ((bf ((au x0).1)).1),NX ((bf ((au x0).1)).2)]] (AD (qM x0 b)<|AD (uV ((au x0).1) a)<|AN))
noncomputable def jw (s:ByteArray):Bool:=(au s).2&&((bf (au s).1).1.toList==s.toList)
theorem KM (s:ByteArray):pB s=some (jw s):=by unfold pB jw;simp only[Ex s,OH];cases(au s).2<;>rfl
theorem jv (x0:ByteArray):Does E 64 [N1 x0] [NX (jw x0)]:=by exact H8 x0 _ (KM x0)
inductive zt where|ret (v2:Bool)|x0
def ll (q0:Kd)(a b:ByteArray)(c d:Int)(e:Bool)(f:List GTask)(v7:Int):US:=stL 74 [(1,.box () [tS a,tS b,tI c,tI d,tB e,.s .far () 5 (f.map (GTask.t q0))]),(7,NZ v7)]
def pd (q0:Kd)(a:Bool):US:=stL 74 [(2,N0 a)]
def qz (q0:Kd)(a b:ByteArray)(c d:Int)(e:Bool)(f:List GTask):US:=stL 74 [(1,.box () [tS a,tS b,tI c,tI d,tB e,.s .far () 5 (f.map (GTask.t q0))])]
abbrev ub:US→Exit→US→Prop:=Round E 37 (aw Tryz.f37 0)
def IA {q0:Kd}(a b:ByteArray)(c d:Int)(e:Bool)(f:List GTask)(v7:Int):zt→Prop| .ret g=>Loops E 37 (aw Tryz.f37 0) (ll q0 a b c d e f v7) .ret (pd q0 g)| .x0=>Loops E 37 (aw Tryz.f37 0) (ll q0 a b c d e f v7) (.exit 0) (qz q0 a b c d e f)
noncomputable def jI (a:List GTask):List GTask→Nat→Bool→Option zt|[],i,b=>some (.x0)|hd::rest,i,b=>if ae.sm a then if 0≤(i:Int)∧(i:Int)<(a.length:Int)then cond (mO a (i:Int)) (jI a rest (i+1) b) (some (.ret false))else none else none
theorem Iz {q0:Kd}(c d:ByteArray)(e f:Int)(a:List GTask)(rest:List GTask):∀(i:Nat)(b:Bool),(a).drop i=rest→a.length≤9223372036854775807→Ans (jI a rest i b) (IA (q0:=q0) c d e f b a (i:Int)):=by
 induction rest with
 |nil =>intro i b g j;have hb:=bw g;unfold jI;exact NN (NP (show ub (ll q0 c d e f b a (i:Int)) (.exit 0) (qz q0 c d e f b a)from RP [N2 (a.length:Int),.b false] (ALn a (GTask.t q0)<|AC hb<|AN)) (by intro h;cases h))
 |cons hd rest p =>
  intro i b g j;have hb:=a8 g;have q:=ba g j;have l:=aG g;have u:=bc g;unfold jI;refine NS (fun m => ?_);refine NS (fun n => ?_);apply NQ<;>intro o
  ·exact(p (i+1) b l j).mono fun y s=>by have r:ub (ll q0 c d e f b a (i:Int)) .normal (ll q0 c d e f b a (inc (i:Int))):=RP [N2 (a.length:Int),.b true,rT] (ALn a (GTask.t q0)<|AC hb<|AV (ψ:=fun k=>E.C k 57 [.one (.s .far () 5 (a.map (GTask.t q0))),NZ (i:Int)]=some [NX true]) (NT (wX a (i:Int) m n) (by rw[o]))<|AN);rw[q]at r;cases y<;>exact NO r s
  ·exact NN (NP (show ub (ll q0 c d e f b a (i:Int)) .ret (pd q0 false)from RP [N2 (a.length:Int),.b true,rF] (ALn a (GTask.t q0)<|AC hb<|AV (ψ:=fun k=>E.C k 57 [.one (.s .far () 5 (a.map (GTask.t q0))),NZ (i:Int)]=some [NX false]) (NT (wX a (i:Int) m n) (by rw[o]))<|AN)) (by intro h;cases h))
noncomputable def rl (x0:GDag):Option (Bool):=
  cond ((au x0.f1).2)
   (if ae.sm ((au x0.f1).1)then if x0.f0.size≤2000000 then cond (ef x0.f0)
    (cond (!(((bf ((au x0.f1).1)).1).toList==x0.f1.toList))
     (some (false))
     (cond (ag x0.f3 0 68374079)
      (cond (ag x0.f2 0 x0.f3)
       (cond (ag (x0.f5.length:Int) 1 4)
        (if x0.f5.length≤9223372036854775807 then(jI x0.f5 x0.f5 0 x0.f4).bind fun y=>match y with
         | .ret a=>(some (a))
         | .x0=>(if ae.sm x0.f5 then if dg x0.f5 then some (((dA x0.f5).length:Int)==(x0.f5.length:Int))else none else none)else none)
        (some (false)))
       (some (false)))
      (some (false))))
    (some (false))else none else none)
   (if ae.sm ((au x0.f1).1)then if x0.f0.size≤2000000 then cond (ef x0.f0)
    (some (false))
    (some (false))else none else none)
theorem Ki {q0:Kd}(x0:GDag):Ans (rl x0) (fun r=>Does E 37 [.agg (GDag.t .far q0 x0)] [NX r]):=by
 unfold rl;apply NQ<;>intro f1
 ·refine NS (fun f2 => ?_);refine NS (fun f3 => ?_);apply NQ<;>intro f4
  ·apply NQ<;>intro a
   ·exact NN (DP Tryz.f37 [.ret [(true,GCron.t .own ((au x0.f1).1)),NX true],.ret [NY ((bf ((au x0.f1).1)).1),NX ((bf ((au x0.f1).1)).2)],rT,.b true] (AD (eW x0.f1 f1)<|AD (eX ((au x0.f1).1) f2)<|AD (NV (cQ x0.f0 f3) f4)<|AC a<|AN))
   ·apply NQ<;>intro b
    ·apply NQ<;>intro d
     ·apply NQ<;>intro f
      ·refine NS (fun g => ?_);refine NR (fun y e => ?_);replace e:=Iz (q0:=q0) x0.f0 x0.f1 x0.f2 x0.f3 x0.f5 x0.f5 0 x0.f4 rfl g y e;cases y with
       |ret c =>have h:=e;exact NN (DP Tryz.f37 [.ret [(true,GCron.t .own ((au x0.f1).1)),NX true],.ret [NY ((bf ((au x0.f1).1)).1),NX ((bf ((au x0.f1).1)).2)],rT,.b false,rT,rT,N2 (x0.f5.length:Int),rT,.lp .ret (pd q0 c)] (AD (eW x0.f1 f1)<|AD (eX ((au x0.f1).1) f2)<|AD (NV (cQ x0.f0 f3) f4)<|AC a<|AD (NV (ah x0.f3 0 68374079) b)<|AD (NV (ah x0.f2 0 x0.f3) d)<|ALn x0.f5 (GTask.t q0)<|AD (NV (ah (x0.f5.length:Int) 1 4) f)<|AL h<|AN))
       |x0 =>have h:=e;refine NS (fun j => ?_);refine NS (fun i => ?_);exact NN (DP Tryz.f37 [.ret [(true,GCron.t .own ((au x0.f1).1)),NX true],.ret [NY ((bf ((au x0.f1).1)).1),NX ((bf ((au x0.f1).1)).2)],rT,.b false,rT,rT,N2 (x0.f5.length:Int),rT,.lp (.exit 0) (qz q0 x0.f0 x0.f1 x0.f2 x0.f3 x0.f4 x0.f5),.ret [(false,[.s .own () 1 ((dA x0.f5).map etI)])],N2 ((dA x0.f5).length:Int),N2 (x0.f5.length:Int)] (AD (eW x0.f1 f1)<|AD (eX ((au x0.f1).1) f2)<|AD (NV (cQ x0.f0 f3) f4)<|AC a<|AD (NV (ah x0.f3 0 68374079) b)<|AD (NV (ah x0.f2 0 x0.f3) d)<|ALn x0.f5 (GTask.t q0)<|AD (NV (ah (x0.f5.length:Int) 1 4) f)<|AL h<|AV (ψ:=fun k=>E.C k 39 [.one (.s .far () 5 (x0.f5.map (GTask.t q0)))]=some [(false,[.s .own () 1 ((dA x0.f5).map etI)])]) (u3 x0.f5 j i)<|ALn (dA x0.f5) etI<|ALn x0.f5 (GTask.t q0)<|AN))
      ·exact NN (DP Tryz.f37 [.ret [(true,GCron.t .own ((au x0.f1).1)),NX true],.ret [NY ((bf ((au x0.f1).1)).1),NX ((bf ((au x0.f1).1)).2)],rT,.b false,rT,rT,N2 (x0.f5.length:Int),rF] (AD (eW x0.f1 f1)<|AD (eX ((au x0.f1).1) f2)<|AD (NV (cQ x0.f0 f3) f4)<|AC a<|AD (NV (ah x0.f3 0 68374079) b)<|AD (NV (ah x0.f2 0 x0.f3) d)<|ALn x0.f5 (GTask.t q0)<|AD (NV (ah (x0.f5.length:Int) 1 4) f)<|AN))
     ·exact NN (DP Tryz.f37 [.ret [(true,GCron.t .own ((au x0.f1).1)),NX true],.ret [NY ((bf ((au x0.f1).1)).1),NX ((bf ((au x0.f1).1)).2)],rT,.b false,rT,rF] (AD (eW x0.f1 f1)<|AD (eX ((au x0.f1).1) f2)<|AD (NV (cQ x0.f0 f3) f4)<|AC a<|AD (NV (ah x0.f3 0 68374079) b)<|AD (NV (ah x0.f2 0 x0.f3) d)<|AN))
    ·exact NN (DP Tryz.f37 [.ret [(true,GCron.t .own ((au x0.f1).1)),NX true],.ret [NY ((bf ((au x0.f1).1)).1),NX ((bf ((au x0.f1).1)).2)],rT,.b false,rF] (AD (eW x0.f1 f1)<|AD (eX ((au x0.f1).1) f2)<|AD (NV (cQ x0.f0 f3) f4)<|AC a<|AD (NV (ah x0.f3 0 68374079) b)<|AN))
  ·exact NN (DP Tryz.f37 [.ret [(true,GCron.t .own ((au x0.f1).1)),NX ((au x0.f1).2)],.ret [NY ((bf ((au x0.f1).1)).1),NX ((bf ((au x0.f1).1)).2)],rF] (AD (oS x0.f1)<|AD (eX ((au x0.f1).1) f2)<|AD (NV (cQ x0.f0 f3) f4)<|AN))
 ·refine NS (fun f5 => ?_);refine NS (fun f6 => ?_);apply NQ<;>intro f7
  ·exact NN (DP Tryz.f37 [.ret [(true,GCron.t .own ((au x0.f1).1)),NX false],.ret [NY ((bf ((au x0.f1).1)).1),NX ((bf ((au x0.f1).1)).2)],rT] (AD (eW x0.f1 f1)<|AD (eX ((au x0.f1).1) f5)<|AD (NV (cQ x0.f0 f6) f7)<|AN))
  ·exact NN (DP Tryz.f37 [.ret [(true,GCron.t .own ((au x0.f1).1)),NX ((au x0.f1).2)],.ret [NY ((bf ((au x0.f1).1)).1),NX ((bf ((au x0.f1).1)).2)],rF] (AD (oS x0.f1)<|AD (eX ((au x0.f1).1) f5)<|AD (NV (cQ x0.f0 f6) f7)<|AN))
inductive yT where|ret (v2:Bool)|x2
def kZ (q0:Kd)(a b:ByteArray)(c d:Int)(e:Bool)(f g:List GTask)(h i:Int)(v59:List ByteArray)(j k:Int):US:=stL 78 [(1,.box () [tS a,tS b,tI c,tI d,tB e,.s .far () 5 (f.map (GTask.t q0))]),(40,.one (.s .far () 5 (g.map (GTask.t q0)))),(41,NZ h),(42,NZ i),(59,.one (.s .far () 1 (v59.map etS))),(60,NZ j),(61,NZ k)]
def oW (q0:Kd)(a:Bool):US:=stL 78 [(2,N0 a)]
def qg (q0:Kd)(a b:ByteArray)(c d:Int)(e:Bool)(f g:List GTask)(h i:Int):US:=stL 78 [(1,.box () [tS a,tS b,tI c,tI d,tB e,.s .far () 5 (f.map (GTask.t q0))]),(40,.one (.s .far () 5 (g.map (GTask.t q0)))),(41,NZ h),(42,NZ i)]
abbrev tF:US→Exit→US→Prop:=Round E 44 (aw Tryz.f44 1)
def H3 {q0:Kd}(a b:ByteArray)(c d:Int)(e:Bool)(f g:List GTask)(h i:Int)(v59:List ByteArray)(j k:Int):yT→Prop| .ret l=>Loops E 44 (aw Tryz.f44 1) (kZ q0 a b c d e f g h i v59 j k) .ret (oW q0 l)| .x2=>Loops E 44 (aw Tryz.f44 1) (kZ q0 a b c d e f g h i v59 j k) (.exit 2) (qg q0 a b c d e f g h i)
noncomputable def jz (b c:ByteArray)(d e:Int)(f:List GTask):List ByteArray→Nat→Bool→Option yT|[],i,a=>some (.x2)|hd::rest,i,a=>if(GDag.mk b c d e a f).f5.length≤1050000 then cond (decide ((bL (GDag.mk b c d e a f) hd)<(0:Int))) (some (.ret false)) (jz b c d e f rest (i+1) a)else none
theorem H0 {q0:Kd}(b c:ByteArray)(d e:Int)(f g:List GTask)(j l:Int)(v59:List ByteArray)(rest:List ByteArray):∀(i:Nat)(a:Bool),(v59).drop i=rest→v59.length≤9223372036854775807→Ans (jz b c d e f rest i a) (H3 (q0:=q0) b c d e a f g j l v59 (v59.length:Int) (i:Int)):=by
 induction rest with
 |nil =>intro i a m n;have hb:=bw m;unfold jz;exact NN (NP (show tF (kZ q0 b c d e a f g j l v59 (v59.length:Int) (i:Int)) (.exit 2) (qg q0 b c d e a f g j l)from RP [.b false] (AC hb<|AN)) (by intro h;cases h))
 |cons hd rest u =>
  intro i a m n;have hb:=a8 m;have v:=ba m n;have o:=aG m;have p:=bc m;unfold jz;refine NS (fun q => ?_);apply NQ<;>intro s
  ·exact NN (NP (show tF (kZ q0 b c d e a f g j l v59 (v59.length:Int) (i:Int)) .ret (oW q0 false)from RP [.b true,.row (etS hd),.ret [NW (bL (GDag.mk b c d e a f) hd)],.b true] (AC hb<|AR etS p<|AV (ψ:=fun k=>E.C k 66 [.agg (GDag.t .far q0 (GDag.mk b c d e a f)),N1 hd]=some [NW (bL (GDag.mk b c d e a f) hd)]) (fB (GDag.mk b c d e a f) hd q)<|AC s<|AN)) (by intro h;cases h))
  ·exact(u (i+1) a o n).mono fun y w=>by have r:tF (kZ q0 b c d e a f g j l v59 (v59.length:Int) (i:Int)) .normal (kZ q0 b c d e a f g j l v59 (v59.length:Int) (inc (i:Int))):=RP [.b true,.row (etS hd),.ret [NW (bL (GDag.mk b c d e a f) hd)],.b false] (AC hb<|AR etS p<|AV (ψ:=fun k=>E.C k 66 [.agg (GDag.t .far q0 (GDag.mk b c d e a f)),N1 hd]=some [NW (bL (GDag.mk b c d e a f) hd)]) (fB (GDag.mk b c d e a f) hd q)<|AC s<|AN);rw[v]at r;cases y<;>exact NO r w
inductive yS where|ret (v2:Bool)|x0
def iE (q0:Kd)(a b:ByteArray)(c d:Int)(e:Bool)(f g:List GTask)(h i:Int):US:=stL 78 [(1,.box () [tS a,tS b,tI c,tI d,tB e,.s .far () 5 (f.map (GTask.t q0))]),(40,.one (.s .far () 5 (g.map (GTask.t q0)))),(41,NZ h),(42,NZ i)]
def jT (q0:Kd)(a:Bool):US:=stL 78 [(2,N0 a)]
def qf (q0:Kd)(a b:ByteArray)(c d:Int)(e:Bool)(f:List GTask):US:=stL 78 [(1,.box () [tS a,tS b,tI c,tI d,tB e,.s .far () 5 (f.map (GTask.t q0))])]
abbrev m9:US→Exit→US→Prop:=Round E 44 (aw Tryz.f44 0)
def H1 {q0:Kd}(a b:ByteArray)(c d:Int)(e:Bool)(f g:List GTask)(h i:Int):yS→Prop| .ret j=>Loops E 44 (aw Tryz.f44 0) (iE q0 a b c d e f g h i) .ret (jT q0 j)| .x0=>Loops E 44 (aw Tryz.f44 0) (iE q0 a b c d e f g h i) (.exit 0) (qf q0 a b c d e f)
noncomputable def jy (b c:ByteArray)(d e:Int)(f:List GTask):List GTask→Nat→Bool→Option yS
 |[],i,a=>some (.x0)
 |hd::rest,i,a=>if ae.sm hd then cond (qI hd)
  (if(GDag.mk b c d e a f).f5.length≤1050000 then cond ((bL (GDag.mk b c d e a f) hd.f0) != (i:Int))
   (some (.ret false))
   (if hd.f4.length≤9223372036854775807 then(jz b c d e f hd.f4 0 a).bind fun y=>match y with
    | .ret g=>(some (.ret g))
    | .x2=>(jy b c d e f rest (i+1) a)else none)else none)
  (some (.ret false))else none
theorem HZ {q0:Kd}(b c:ByteArray)(d e:Int)(f g:List GTask)(rest:List GTask):∀(i:Nat)(a:Bool),(g).drop i=rest→g.length≤9223372036854775807→Ans (jy b c d e f rest i a) (H1 (q0:=q0) b c d e a f g (g.length:Int) (i:Int)):=by
 induction rest with
 |nil =>intro i a l q;have hb:=bw l;unfold jy;exact NN (NP (show m9 (iE q0 b c d e a f g (g.length:Int) (i:Int)) (.exit 0) (qf q0 b c d e a f)from RP [.b false] (AC hb<|AN)) (by intro h;cases h))
 |cons hd rest z =>
  intro i a l q;have hb:=a8 l;have A:=ba l q;have s:=aG l;have n:=bc l;unfold jy;refine NS (fun o => ?_);apply NQ<;>intro p
  ·refine NS (fun u => ?_);apply NQ<;>intro v
   ·exact NN (NP (show m9 (iE q0 b c d e a f g (g.length:Int) (i:Int)) .ret (jT q0 false)from RP [.b true,.row ((GTask.t q0) hd),rT,.ret [NW (bL (GDag.mk b c d e a f) hd.f0)],.b true] (AC hb<|AR (GTask.t q0) n<|AD (NV (pr hd o) p)<|AV (ψ:=fun k=>E.C k 66 [.agg (GDag.t .far q0 (GDag.mk b c d e a f)),N1 hd.f0]=some [NW (bL (GDag.mk b c d e a f) hd.f0)]) (fB (GDag.mk b c d e a f) hd.f0 u)<|AC v<|AN)) (by intro h;cases h))
   ·refine NS (fun w => ?_);refine NR (fun y m => ?_);replace m:=H0 (q0:=q0) b c d e f g (g.length:Int) (i:Int) hd.f4 hd.f4 0 a rfl w y m;cases y with
    |ret j =>have x:=m;exact NN (NP (show m9 (iE q0 b c d e a f g (g.length:Int) (i:Int)) .ret (jT q0 j)from RP [.b true,.row ((GTask.t q0) hd),rT,.ret [NW (bL (GDag.mk b c d e a f) hd.f0)],.b false,N2 (hd.f4.length:Int),.lp .ret (oW q0 j)] (AC hb<|AR (GTask.t q0) n<|AD (NV (pr hd o) p)<|AV (ψ:=fun k=>E.C k 66 [.agg (GDag.t .far q0 (GDag.mk b c d e a f)),N1 hd.f0]=some [NW (bL (GDag.mk b c d e a f) hd.f0)]) (fB (GDag.mk b c d e a f) hd.f0 u)<|AC v<|ALn hd.f4 etS<|AL x<|AN)) (by intro h;cases h))
    |x2 =>have x:=m;exact(z (i+1) a s q).mono fun y m=>by have r:m9 (iE q0 b c d e a f g (g.length:Int) (i:Int)) .normal (iE q0 b c d e a f g (g.length:Int) (inc (i:Int))):=RP [.b true,.row ((GTask.t q0) hd),rT,.ret [NW (bL (GDag.mk b c d e a f) hd.f0)],.b false,N2 (hd.f4.length:Int),.lp (.exit 2) (qg q0 b c d e a f g (g.length:Int) (i:Int))] (AC hb<|AR (GTask.t q0) n<|AD (NV (pr hd o) p)<|AV (ψ:=fun k=>E.C k 66 [.agg (GDag.t .far q0 (GDag.mk b c d e a f)),N1 hd.f0]=some [NW (bL (GDag.mk b c d e a f) hd.f0)]) (fB (GDag.mk b c d e a f) hd.f0 u)<|AC v<|ALn hd.f4 etS<|AL x<|AN);rw[A]at r;cases y<;>exact NO r m
  ·exact NN (NP (show m9 (iE q0 b c d e a f g (g.length:Int) (i:Int)) .ret (jT q0 false)from RP [.b true,.row ((GTask.t q0) hd),rF] (AC hb<|AR (GTask.t q0) n<|AD (NV (pr hd o) p)<|AN)) (by intro h;cases h))
noncomputable def qW (x0:GDag):Option (Bool):=
  if x0.f0.size≤2000000 then cond (ef x0.f0)
   (cond (jw x0.f1)
    (cond (decide (x0.f2<(0:Int)))
     (some (false))
     (cond (decide (x0.f2>x0.f3))
      (some (false))
      (cond (decide (x0.f3>(68374079:Int)))
       (some (false))
       (cond (ag (x0.f5.length:Int) 1 4)
        (if x0.f5.length≤9223372036854775807 then(jy x0.f0 x0.f1 x0.f2 x0.f3 x0.f5 x0.f5 0 x0.f4).bind fun y=>match y with
         | .ret a=>(some (a))
         | .x0=>(if ae.sm x0 then if dg x0.f5 then some (((fj x0).length:Int)==(x0.f5.length:Int))else none else none)else none)
        (some (false))))))
    (some (false)))
   (some (false))else none
theorem JE {q0:Kd}(x0:GDag):Ans (qW x0) (fun r=>Does E 44 [.agg (GDag.t .far q0 x0)] [NX r]):=by
 unfold qW;refine NS (fun a => ?_);apply NQ<;>intro b
 ·apply NQ<;>intro c
  ·apply NQ<;>intro d
   ·exact NN (DP Tryz.f44 [rT,rT,.b true] (AD (NV (dj x0.f0 a) b)<|AD (NV (jv x0.f1) c)<|AC d<|AN))
   ·apply NQ<;>intro e
    ·exact NN (DP Tryz.f44 [rT,rT,.b false,.b true] (AD (NV (dj x0.f0 a) b)<|AD (NV (jv x0.f1) c)<|AC d<|AC e<|AN))
    ·apply NQ<;>intro g
     ·exact NN (DP Tryz.f44 [rT,rT,.b false,.b false,.b true] (AD (NV (dj x0.f0 a) b)<|AD (NV (jv x0.f1) c)<|AC d<|AC e<|AC g<|AN))
     ·apply NQ<;>intro i
      ·refine NS (fun j => ?_);refine NR (fun y h => ?_);replace h:=HZ (q0:=q0) x0.f0 x0.f1 x0.f2 x0.f3 x0.f5 x0.f5 x0.f5 0 x0.f4 rfl j y h;cases y with
       |ret f =>have l:=h;exact NN (DP Tryz.f44 [rT,rT,.b false,.b false,.b false,N2 (x0.f5.length:Int),rT,N2 (x0.f5.length:Int),.lp .ret (jT q0 f)] (AD (NV (dj x0.f0 a) b)<|AD (NV (jv x0.f1) c)<|AC d<|AC e<|AC g<|ALn x0.f5 (GTask.t q0)<|AD (NV (ay (x0.f5.length:Int) 1 4) i)<|ALn x0.f5 (GTask.t q0)<|AL l<|AN))
       |x0 =>have l:=h;refine NS (fun m => ?_);refine NS (fun n => ?_);exact NN (DP Tryz.f44 [rT,rT,.b false,.b false,.b false,N2 (x0.f5.length:Int),rT,N2 (x0.f5.length:Int),.lp (.exit 0) (qf q0 x0.f0 x0.f1 x0.f2 x0.f3 x0.f4 x0.f5),.ret [(false,[.s .own () 1 ((fj x0).map etI)])],N2 ((fj x0).length:Int),N2 (x0.f5.length:Int)] (AD (NV (dj x0.f0 a) b)<|AD (NV (jv x0.f1) c)<|AC d<|AC e<|AC g<|ALn x0.f5 (GTask.t q0)<|AD (NV (ay (x0.f5.length:Int) 1 4) i)<|ALn x0.f5 (GTask.t q0)<|AL l<|AV (ψ:=fun k=>E.C k 67 [.agg (GDag.t .far q0 x0)]=some [(false,[.s .own () 1 ((fj x0).map etI)])]) (wR x0 m n)<|ALn (fj x0) etI<|ALn x0.f5 (GTask.t q0)<|AN))
      ·exact NN (DP Tryz.f44 [rT,rT,.b false,.b false,.b false,N2 (x0.f5.length:Int),rF] (AD (NV (dj x0.f0 a) b)<|AD (NV (jv x0.f1) c)<|AC d<|AC e<|AC g<|ALn x0.f5 (GTask.t q0)<|AD (NV (ay (x0.f5.length:Int) 1 4) i)<|AN))
  ·exact NN (DP Tryz.f44 [rT,rF] (AD (NV (dj x0.f0 a) b)<|AD (NV (jv x0.f1) c)<|AN))
 ·exact NN (DP Tryz.f44 [rF] (AD (NV (dj x0.f0 a) b)<|AN))
noncomputable def dZ (ts:List GTask):List GTask→Nat→Bool|[],_=>true|t::r,i=>ic ts (i:Int) t&&dZ ts r (i+1)
noncomputable def aR (d:GDag):Bool :=ef d.f0&&(jw d.f1&&(ag d.f3 0 68374079&&(ag d.f2 0 d.f3&&(ag (d.f5.length:Int) 1 4&&(dZ d.f5 d.f5 0&&((dA d.f5).length:Int)==(d.f5.length:Int))))))
theorem pI (ts:List GTask):∀(rest:List GTask)(i:Nat),ts.drop i=rest→dZ ts rest i=true→∀(k:Nat)(t:GTask),i≤k→ts[k]?=some t→ic ts (k:Int) t=true
 |[],i,h,_,k,t,c,a=>by have:ts.length≤i:=List.drop_eq_nil_iff.1 h;rw[Ob (by omega)]at a;cases a
 |x::rest,i,h,b,k,t,c,a=>by
  unfold dZ at b;rw[Ow]at b;by_cases e:k=i
  ·subst e;have:ts[k]?=some x:=by rw[←Qn,h];rfl
   rw[this]at a;cases a;exact b.1
  ·exact pI ts rest (i+1) (aG h) b.2 k t (by omega) a
theorem tE {ts:List GTask}(a:ts.length≤4)(h:dZ ts ts 0=true):dg ts:=by refine⟨a,fun i t b => ?_⟩;have:=pI ts ts 0 rfl h i t (Qm _) b;unfold ic at this;simp only[Ow,PK]at this;exact this.2.1
theorem Jf (ts:List GTask)(hs:ae.sm ts):∀(rest:List GTask)(i:Nat)(z:Bool),ts.drop i=rest→jI ts rest i z=some (cond (dZ ts rest i) .x0 (.ret false))
 |[],i,z,_=>rfl
 |x::rest,i,z,h=>by
  have hi:=m5 h;have a:=bc h;have e:mO ts (i:Int)=ic ts (i:Int) x:=by unfold mO;rw[a]
  unfold jI dZ;rw[Jf ts hs rest (i+1) z (aG h),N5 hs,N5 (by omega),e];cases ic ts (i:Int) x<;>rfl
theorem MM (d:GDag)(h:ae.sm d):rl d=some (aR d):=by
 have hs:ae.sm d.f5:=h.2.2;have a:d.f0.size≤2000000:=by have:d.f0.size≤1050000:=h.1;omega
 unfold rl aR jw;simp only[a,Ex,OH];cases(au d.f1).2 with
 |false=>cases ef d.f0<;>rfl
 |true =>
  rw[Om];cases ef d.f0 with
  |false=>rfl
  |true =>
   rw[Om,OG,OG];cases(bf (au d.f1).1).1.toList==d.f1.toList with
   |false=>rfl
   |true =>
    rw[Pq,Ou,OG];cases ag d.f3 0 68374079 with
    |false=>rfl
    |true =>
     rw[Om,OG];cases ag d.f2 0 d.f3 with
     |false=>rfl
     |true =>
      rw[Om,OG];cases q:ag (d.f5.length:Int) 1 4 with
      |false=>rfl
      |true =>
       have b:d.f5.length≤4:=by unfold ag at q;simp at q;omega
       rw[Om,OG,N5 (by omega),Jf d.f5 hs d.f5 0 d.f4 rfl];cases w:dZ d.f5 d.f5 0 with
       |false=>rfl
       |true =>rw[Om,N4,OG];simp only;rw[N5 hs,N5 (tE b w)]
theorem Je (a b:ByteArray)(c e:Int)(ts:List GTask)(d:ts.length≤1050000):∀(l:List ByteArray)(i:Nat)(z:Bool),jz a b c e ts l i z=some (cond (l.all fun n=>decide (0≤ar ts n)) .x2 (.ret false))
 |[],i,z=>rfl
 |n::l,i,z=>by
  unfold jz;rw[N5 (show(GDag.mk a b c e z ts).f5.length≤1050000 from d),Je a b c e ts d l (i+1) z,PH];show cond (decide (ar ts n<0)) _ _=_;by_cases w:ar ts n<0
  ·rw[Of w,Oe (by omega:¬ 0≤ar ts n)];rfl
  ·rw[Oe w,Of (by omega:0≤ar ts n)];rfl
theorem Jd (a b:ByteArray)(c e:Int)(ts:List GTask)(hs:ae.sm ts)(d:ts.length≤4):∀(l:List GTask)(i:Nat)(z:Bool),(∀y∈l,ae.sm y)→jy a b c e ts l i z=some (cond (dZ ts l i) .x0 (.ret false))
 |[],i,z,_=>rfl
 |t::l,i,z,f=>by have g:=f t (by simp);have hf:t.f4.length≤1050000:=g.2.2.1;unfold jy dZ;rw[N5 g,N5 (show(GDag.mk a b c e z ts).f5.length≤1050000 from hs.1),N5 (by omega),Je a b c e ts hs.1,Jd a b c e ts hs d l (i+1) z (fun y h=>f y (by simp[h])),IQ ts d];have j:(bL (GDag.mk a b c e z ts) t.f0 != (i:Int))= !(ar ts t.f0==(i:Int)):=rfl;rw[j];cases qI t<;>cases ar ts t.f0==(i:Int)<;>cases(t.f4.all fun n=>decide (0≤ar ts n))<;>cases dZ ts l (i+1)<;>rfl
theorem ML (d:GDag)(h:ae.sm d):qW d=some (aR d):=by
 have hs:ae.sm d.f5:=h.2.2;have e:d.f0.size≤2000000:=by have:d.f0.size≤1050000:=h.1;omega
 unfold qW aR;rw[N5 e];cases ef d.f0 with
 |false=>rfl
 |true =>
  rw[Om,OG];cases jw d.f1 with
  |false=>rfl
  |true =>
   rw[Om,OG];by_cases w0:d.f2<0
   ·have:ag d.f2 0 d.f3=false:=by unfold ag;rw[Oe (by omega)];rfl
    rw[Of w0,this,Qo,P1];rfl
   ·rw[Oe w0,Ou];by_cases a:d.f2>d.f3
    ·have:ag d.f2 0 d.f3=false:=by unfold ag;rw[Oe (by omega:¬d.f2≤d.f3),P1]
     rw[Of a,this,Qo,P1];rfl
    ·rw[Oe a,Ou];have f:ag d.f2 0 d.f3=true:=by unfold ag;rw[Of (by omega),Of (by omega)];rfl
     by_cases b:d.f3>68374079
     ·have:ag d.f3 0 68374079=false:=by unfold ag;rw[Oe (by omega:¬d.f3≤68374079),P1]
      rw[Of b,this,Qo];rfl
     ·have g:ag d.f3 0 68374079=true:=by unfold ag;rw[Of (by omega),Of (by omega)];rfl
      rw[Oe b,Ou,f,g,OG,OG];cases q:ag (d.f5.length:Int) 1 4 with
      |false=>rfl
      |true =>
       have c:d.f5.length≤4:=by unfold ag at q;simp at q;omega
       rw[Om,OG,N5 (by omega),Jd d.f0 d.f1 d.f2 d.f3 d.f5 hs c d.f5 0 d.f4 hs.2];cases w:dZ d.f5 d.f5 0 with
       |false=>rfl
       |true =>rw[Om,N4,OG];simp only;rw[N5 h,N5 (tE c w)];rfl
theorem oH {q0:Kd}(x0:GDag)(h:ae.sm x0):Does E 37 [.agg (GDag.t .far q0 x0)] [NX (aR x0)]:=by exact Ki x0 _ (MM x0 h)
theorem Be {q0:Kd}(x0:GDag)(h:ae.sm x0):Does E 44 [.agg (GDag.t .far q0 x0)] [NX (aR x0)]:=by exact JE x0 _ (ML x0 h)
end
end Go.Proofs.YtkgecjmfkcohkaaGreatDoor.Am
