/- Plans. -/
import Derived.Test.YtoanlngmbcnglaaGreatDoorRules
namespace Go.Proofs.YtoanlngmbcnglaaGreatDoor.Am
open Go
set_option linter.unusedVariables false
set_option linter.unusedSimpArgs false
section
open Go.Proofs Classical
set_option maxRecDepth 100000
inductive Bw where|ret (v2:Bool)|x0
def dw (v0:ByteArray)(v3:Int):US:=stL 46 [(0,T7 v0),(3,T5 v3)]
def iT (a:Bool):US:=stL 46 [(2,T6 a)]
def sg  : US:=stL 46 []
abbrev iH:US→Exit→US→Prop:=Round E 58 (am Tryz.f58 0)
def LP (v0:ByteArray)(v3:Int):Bw→Prop| .ret a=>Loops E 58 (am Tryz.f58 0) (dw v0 v3) .ret (iT a)| .x0=>Loops E 58 (am Tryz.f58 0) (dw v0 v3) (.exit 0) (sg)
noncomputable def gw  : List Int→Nat→Option Bw|[],i=>some (.x0)|hd::rest,i=>cond (decide (hd<(97:Int))) (cond (decide (hd<(48:Int))) (some (.ret false)) (cond (decide (hd>(57:Int))) (some (.ret false)) (gw rest (i+1)))) (cond (decide (hd>(122:Int))) (cond (decide (hd<(48:Int))) (some (.ret false)) (cond (decide (hd>(57:Int))) (some (.ret false)) (gw rest (i+1)))) (gw rest (i+1)))
theorem LO (v0:ByteArray)(rest:List Int):∀(i:Nat) ,(ch v0).drop i=rest→v0.size≤9223372036854775807→Ans (gw rest i) (LP v0 (i:Int)):=by
 induction rest with
 |nil =>intro i c g;have hb:=tD c;unfold gw;exact TT (TV (show iH (dw v0 (i:Int)) (.exit 0) (sg)from RP [.b false] (AC hb<|AN)) (by intro h;cases h))
 |cons hd rest k =>
  intro i c g;have hb:=rB c;have l:=rC c g;have d:=aq c;have a:=vW c;obtain rfl:=vV c;unfold gw;apply TW<;>intro e
  ·apply TW<;>intro b
   ·exact TT (TV (show iH (dw v0 (i:Int)) .ret (iT false)from RP [.b true,.b true,.b true] (AC hb<|AC a<|AC e<|AC a<|AC b<|AN)) (by intro h;cases h))
   ·apply TW<;>intro f
    ·exact TT (TV (show iH (dw v0 (i:Int)) .ret (iT false)from RP [.b true,.b true,.b false,.b true] (AC hb<|AC a<|AC e<|AC a<|AC b<|AC a<|AC f<|AN)) (by intro h;cases h))
    ·exact(k (i+1) d g).mono fun y j=>by have r:iH (dw v0 (i:Int)) .normal (dw v0 (inc (i:Int))):=RP [.b true,.b true,.b false,.b false] (AC hb<|AC a<|AC e<|AC a<|AC b<|AC a<|AC f<|AN);rw[l]at r;cases y<;>exact TU r j
  ·apply TW<;>intro b
   ·apply TW<;>intro f
    ·exact TT (TV (show iH (dw v0 (i:Int)) .ret (iT false)from RP [.b true,.b false,.b true,.b true] (AC hb<|AC a<|AC e<|AC a<|AC b<|AC a<|AC f<|AN)) (by intro h;cases h))
    ·apply TW<;>intro m
     ·exact TT (TV (show iH (dw v0 (i:Int)) .ret (iT false)from RP [.b true,.b false,.b true,.b false,.b true] (AC hb<|AC a<|AC e<|AC a<|AC b<|AC a<|AC f<|AC a<|AC m<|AN)) (by intro h;cases h))
     ·exact(k (i+1) d g).mono fun y j=>by have r:iH (dw v0 (i:Int)) .normal (dw v0 (inc (i:Int))):=RP [.b true,.b false,.b true,.b false,.b false] (AC hb<|AC a<|AC e<|AC a<|AC b<|AC a<|AC f<|AC a<|AC m<|AN);rw[l]at r;cases y<;>exact TU r j
   ·exact(k (i+1) d g).mono fun y j=>by have r:iH (dw v0 (i:Int)) .normal (dw v0 (inc (i:Int))):=RP [.b true,.b false,.b false] (AC hb<|AC a<|AC e<|AC a<|AC b<|AN);rw[l]at r;cases y<;>exact TU r j
noncomputable def sV (x0:ByteArray):Option (Bool):=
  cond (ae (x0.size:Int) 1 8)
   (if 0≤(0:Int)∧(0:Int)<(x0.size:Int)then cond (decide ((iq x0 (0:Int))<(97:Int)))
    (some (false))
    (cond (decide ((iq x0 (0:Int))>(122:Int)))
     (some (false))
     (if x0.size≤9223372036854775807 then(gw (ch x0) 0).bind fun y=>match y with
      | .ret a=>(some (a))
      | .x0=>(some (true))else none))else none)
   (some (false))
theorem Og (x0:ByteArray):Ans (sV x0) (fun r=>Does E 58 [T7 x0] [T3 r]):=by
 unfold sV;apply TW<;>intro b
 ·refine TY (fun a => ?_);apply TW<;>intro d
  ·exact TT (DP Tryz.f58 [rT,.b true] (AD (T1 (ag (x0.size:Int) 1 8) b)<|AC a<|AC d<|AN))
  ·apply TW<;>intro f
   ·exact TT (DP Tryz.f58 [rT,.b false,.b true] (AD (T1 (ag (x0.size:Int) 1 8) b)<|AC a<|AC d<|AC a<|AC f<|AN))
   ·refine TY (fun g => ?_);refine TX (fun y e => ?_);replace e:=LO x0 (ch x0) 0 rfl g y e;cases y with
    |ret c =>have h:=e;exact TT (DP Tryz.f58 [rT,.b false,.b false,.lp .ret (iT c)] (AD (T1 (ag (x0.size:Int) 1 8) b)<|AC a<|AC d<|AC a<|AC f<|AL h<|AN))
    |x0 =>have h:=e;exact TT (DP Tryz.f58 [rT,.b false,.b false,.lp (.exit 0) (sg)] (AD (T1 (ag (x0.size:Int) 1 8) b)<|AC a<|AC d<|AC a<|AC f<|AL h<|AN))
 ·exact TT (DP Tryz.f58 [rF] (AD (T1 (ag (x0.size:Int) 1 8) b)<|AN))
inductive A8 where|ret (v2:Bool)|x0
def cG (v0:ByteArray)(v3:Int):US:=stL 42 [(0,T7 v0),(3,T5 v3)]
def fc (a:Bool):US:=stL 42 [(2,T6 a)]
def rP (v0:ByteArray):US:=stL 42 [(0,T7 v0)]
abbrev fg:US→Exit→US→Prop:=Round E 66 (am Tryz.f66 0)
def K3 (v0:ByteArray)(v3:Int):A8→Prop| .ret a=>Loops E 66 (am Tryz.f66 0) (cG v0 v3) .ret (fc a)| .x0=>Loops E 66 (am Tryz.f66 0) (cG v0 v3) (.exit 0) (rP v0)
noncomputable def fh  : List Int→Nat→Option A8|[],i=>some (.x0)|hd::rest,i=>cond (decide (hd≥(97:Int))) (cond (decide (hd≤(122:Int))) (fh rest (i+1)) (cond ((i:Int)==(0:Int)) (some (.ret false)) (cond (decide (hd<(48:Int))) (some (.ret false)) (cond (decide (hd>(57:Int))) (some (.ret false)) (fh rest (i+1)))))) (cond ((i:Int)==(0:Int)) (some (.ret false)) (cond (decide (hd<(48:Int))) (some (.ret false)) (cond (decide (hd>(57:Int))) (some (.ret false)) (fh rest (i+1)))))
theorem K2 (v0:ByteArray)(rest:List Int):∀(i:Nat) ,(ch v0).drop i=rest→v0.size≤9223372036854775807→Ans (fh rest i) (K3 v0 (i:Int)):=by
 induction rest with
 |nil =>intro i e j;have hb:=tD e;unfold fh;exact TT (TV (show fg (cG v0 (i:Int)) (.exit 0) (rP v0)from RP [.b false] (AC hb<|AN)) (by intro h;cases h))
 |cons hd rest l =>
  intro i e j;have hb:=rB e;have m:=rC e j;have f:=aq e;have a:=vW e;obtain rfl:=vV e;unfold fh;apply TW<;>intro c
  ·apply TW<;>intro b
   ·exact(l (i+1) f j).mono fun y k=>by have r:fg (cG v0 (i:Int)) .normal (cG v0 (inc (i:Int))):=RP [.b true,.b true,.b true] (AC hb<|AC a<|AC c<|AC a<|AC b<|AN);rw[m]at r;cases y<;>exact TU r k
   ·apply TW<;>intro d
    ·exact TT (TV (show fg (cG v0 (i:Int)) .ret (fc false)from RP [.b true,.b true,.b false,.b true] (AC hb<|AC a<|AC c<|AC a<|AC b<|AC d<|AN)) (by intro h;cases h))
    ·apply TW<;>intro g
     ·exact TT (TV (show fg (cG v0 (i:Int)) .ret (fc false)from RP [.b true,.b true,.b false,.b false,.b true] (AC hb<|AC a<|AC c<|AC a<|AC b<|AC d<|AC a<|AC g<|AN)) (by intro h;cases h))
     ·apply TW<;>intro n
      ·exact TT (TV (show fg (cG v0 (i:Int)) .ret (fc false)from RP [.b true,.b true,.b false,.b false,.b false,.b true] (AC hb<|AC a<|AC c<|AC a<|AC b<|AC d<|AC a<|AC g<|AC a<|AC n<|AN)) (by intro h;cases h))
      ·exact(l (i+1) f j).mono fun y k=>by have r:fg (cG v0 (i:Int)) .normal (cG v0 (inc (i:Int))):=RP [.b true,.b true,.b false,.b false,.b false,.b false] (AC hb<|AC a<|AC c<|AC a<|AC b<|AC d<|AC a<|AC g<|AC a<|AC n<|AN);rw[m]at r;cases y<;>exact TU r k
  ·apply TW<;>intro b
   ·exact TT (TV (show fg (cG v0 (i:Int)) .ret (fc false)from RP [.b true,.b false,.b true] (AC hb<|AC a<|AC c<|AC b<|AN)) (by intro h;cases h))
   ·apply TW<;>intro d
    ·exact TT (TV (show fg (cG v0 (i:Int)) .ret (fc false)from RP [.b true,.b false,.b false,.b true] (AC hb<|AC a<|AC c<|AC b<|AC a<|AC d<|AN)) (by intro h;cases h))
    ·apply TW<;>intro g
     ·exact TT (TV (show fg (cG v0 (i:Int)) .ret (fc false)from RP [.b true,.b false,.b false,.b false,.b true] (AC hb<|AC a<|AC c<|AC b<|AC a<|AC d<|AC a<|AC g<|AN)) (by intro h;cases h))
     ·exact(l (i+1) f j).mono fun y k=>by have r:fg (cG v0 (i:Int)) .normal (cG v0 (inc (i:Int))):=RP [.b true,.b false,.b false,.b false,.b false] (AC hb<|AC a<|AC c<|AC b<|AC a<|AC d<|AC a<|AC g<|AN);rw[m]at r;cases y<;>exact TU r k
noncomputable def sK (x0:ByteArray):Option (Bool):=
  if x0.size≤9223372036854775807 then(fh (ch x0) 0).bind fun y=>match y with
   | .ret a=>(some (a))
   | .x0=>(some (ae (x0.size:Int) 1 8))else none
theorem Nz (x0:ByteArray):Ans (sK x0) (fun r=>Does E 66 [T7 x0] [T3 r]):=by
 unfold sK;refine TY (fun c => ?_);refine TX (fun y b => ?_);replace b:=K2 x0 (ch x0) 0 rfl c y b;cases y with
 |ret a =>have d:=b;exact TT (DP Tryz.f66 [.lp .ret (fc a)] (AL d<|AN))
 |x0 =>have d:=b;exact TT (DP Tryz.f66 [.lp (.exit 0) (rP x0),.ret [T3 (ae (x0.size:Int) 1 8)]] (AL d<|AD (an (x0.size:Int) 1 (8:Int))<|AN))
def vu (h:Int):Bool:=decide (97≤h∧h≤122)
def lfI (h:Int):Bool:=decide (97≤h∧h≤122∨48≤h∧h≤57)
def Rq:List Int→Bool|[]=>true|h::l=>vu h&&l.all lfI
def eK (s:ByteArray):Bool:=ae (s.size:Int) 1 8&&Rq (ch s)
theorem Sn {α:Type}(h:Int)(A B:α):cond (decide (h<97)) (cond (decide (h<48)) A (cond (decide (h>57)) A B)) (cond (decide (h>122)) (cond (decide (h<48)) A (cond (decide (h>57)) A B)) B)=cond (lfI h) B A:=by
 unfold lfI;simp only[WJ];repeat' split
 all_goals first|rfl|(exfalso;omega)
theorem RQ {α:Type}(h:Int)(A B:α):cond (decide (h≥97)) (cond (decide (h≤122)) B (cond (decide (h<48)) A (cond (decide (h>57)) A B))) (cond (decide (h<48)) A (cond (decide (h>57)) A B))=cond (lfI h) B A:=by
 unfold lfI;simp only[WJ];repeat' split
 all_goals first|rfl|(exfalso;omega)
theorem RO {α:Type}(h:Int)(A B:α):cond (decide (h≥97)) (cond (decide (h≤122)) B A) A=cond (vu h) B A:=by
 unfold vu;simp only[WJ];repeat' split
 all_goals first|rfl|(exfalso;omega)
theorem Sm {h:Int}(q:vu h=true):lfI h=true:=by unfold vu at q;unfold lfI;simp only[U7]at q ⊢;exact .inl q
theorem ME:∀(l:List Int)(i:Nat),gw l i=some (cond (l.all lfI) .x0 (.ret false))
 |[],i=>rfl
 |h::l,i=>by unfold gw;rw[ME l (i+1),Vl,Sn];cases lfI h<;>rfl
theorem MD:∀(l:List Int)(i:Nat),fh l (i+1)=some (cond (l.all lfI) .x0 (.ret false))
 |[],i=>rfl
 |h::l,i=>by
  unfold fh;have e:(((i+1:Nat):Int)==0)=false:=by rw[Va];omega
  rw[MD l (i+1),Vl,e];simp only[Uu];rw[RQ];cases lfI h<;>rfl
theorem Sq (s:ByteArray)(hs:s.size≤2000000):sV s=some (eK s):=by
 unfold sV eK;cases q:ae (s.size:Int) 1 8 with
 |false=>rfl
 |true =>
  have c:1≤(s.size:Int)∧(s.size:Int)≤8:=by unfold ae at q;simpa using q
  rw[Uo,Ub (by omega),Ub (by omega),UJ,ME];have a:=vF s 0 (by omega);cases e:ch s with
  |nil=>rw[e]at a;cases a
  |cons h l =>
   rw[e]at a;have hb:h=iq s (0:Int):=V9 a;rw[←hb];show _=some (vu h&&l.all lfI);rw[Vl];have k:∀(X:Option Bool),cond (decide (h<97)) (some false) (cond (decide (h>122)) (some false) X)=cond (vu h) X (some false):=fun X=>by
    unfold vu;simp only[WJ];repeat' split
    all_goals first|rfl|(exfalso;omega)
   rw[k];cases b:vu h with
   |false=>rfl
   |true =>rw[Sm b];cases l.all lfI<;>rfl
theorem Sp (s:ByteArray)(hs:s.size≤2000000):sK s=some (eK s):=by
 unfold sK eK;rw[Ub (by omega)];cases e:ch s with
 |nil =>show some (ae (s.size:Int) 1 8)=some (ae (s.size:Int) 1 8&&true);rw[Bool.and_true]
 |cons h l =>
  unfold fh Rq;have a:(((0:Nat):Int)==0)=true:=rfl;rw[MD l 0,a];simp only[Uo];rw[RO];cases vu h with
  |false=>rw[Wv,VR];rfl
  |true =>
   rw[Uo,UJ,Ua];cases l.all lfI with
   |false=>rw[VR];rfl
   |true=>rw[Bool.and_true];rfl
theorem da (x0:ByteArray)(h:x0.size≤2000000):Does E 58 [T7 x0] [T3 (eK x0)]:=by exact Og x0 _ (Sq x0 h)
theorem dC (x0:ByteArray)(h:x0.size≤2000000):Does E 66 [T7 x0] [T3 (eK x0)]:=by exact Nz x0 _ (Sp x0 h)
noncomputable def fD (x0:ByteArray):Option (Int):=cond (x0.toList==(⟨#[111,110,101]⟩:ByteArray).toList) (some (1)) (cond (x0.toList==(⟨#[116,119,111]⟩:ByteArray).toList) (some (2)) (cond (x0.toList==(⟨#[119,105,100,101]⟩:ByteArray).toList) (some (4)) (some (0))))
theorem JV (x0:ByteArray):Ans (fD x0) (fun r=>Does E 88 [T7 x0] [T2 r]):=by
 unfold fD;apply TW<;>intro a
 ·exact TT (DP Tryz.f88 [.b true] (AC a<|AN))
 ·apply TW<;>intro b
  ·exact TT (DP Tryz.f88 [.b false,.b true] (AC a<|AC b<|AN))
  ·apply TW<;>intro c
   ·exact TT (DP Tryz.f88 [.b false,.b false,.b true] (AC a<|AC b<|AC c<|AN))
   ·exact TT (DP Tryz.f88 [.b false,.b false,.b false] (AC a<|AC b<|AC c<|AN))
noncomputable def zl (x0:ByteArray):Option (Int):=cond (x0.toList==(⟨#[111,110,101]⟩:ByteArray).toList) (some (1)) (cond (x0.toList==(⟨#[116,119,111]⟩:ByteArray).toList) (some (2)) (cond (x0.toList==(⟨#[119,105,100,101]⟩:ByteArray).toList) (some (4)) (some (0))))
theorem IJ (x0:ByteArray):Ans (zl x0) (fun r=>Does E 27 [T7 x0] [T2 r]):=by
 unfold zl;apply TW<;>intro a
 ·exact TT (DP Tryz.f27 [.b true] (AC a<|AN))
 ·apply TW<;>intro b
  ·exact TT (DP Tryz.f27 [.b false,.b true] (AC a<|AC b<|AN))
  ·apply TW<;>intro c
   ·exact TT (DP Tryz.f27 [.b false,.b false,.b true] (AC a<|AC b<|AC c<|AN))
   ·exact TT (DP Tryz.f27 [.b false,.b false,.b false] (AC a<|AC b<|AC c<|AN))
noncomputable def aY (s:ByteArray):Int:=(fD s).getD 0
theorem JE (s:ByteArray):fD s=some (aY s):=by refine Tot.getD ?_ _;unfold fD;repeat' (first|exact Tot.some _|apply Tot.cond)
theorem oU (x0:ByteArray):Does E 88 [T7 x0] [T2 (aY x0)]:=by exact JV x0 _ (JE x0)
theorem iX (x0:ByteArray):Does E 27 [T7 x0] [T2 (aY x0)]:=by exact IJ x0 _ (JE x0)
inductive DA where|ret (v4:Int)|x0
def mS (q0:Kd)(v0:List GTask)(v1:ByteArray)(v5:Int):US:=stL 20 [(0,.one (.s .far () 5 (v0.map (GTask.t q0)))),(1,T7 v1),(5,T5 v5)]
def sr (q0:Kd)(a:Int):US:=stL 20 [(4,T5 a)]
def uc (q0:Kd)  : US:=stL 20 []
abbrev xB:US→Exit→US→Prop:=Round E 87 (am Tryz.f87 0)
def Om {q0:Kd}(v0:List GTask)(v1:ByteArray)(v5:Int):DA→Prop| .ret a=>Loops E 87 (am Tryz.f87 0) (mS q0 v0 v1 v5) .ret (sr q0 a)| .x0=>Loops E 87 (am Tryz.f87 0) (mS q0 v0 v1 v5) (.exit 0) (uc q0)
noncomputable def kW (v1:ByteArray):List GTask→Nat→Option DA|[],i=>some (.x0)|hd::rest,i=>cond (hd.f0.toList==v1.toList) (some (.ret (i:Int))) (kW v1 rest (i+1))
theorem Ol {q0:Kd}(v0:List GTask)(v1:ByteArray)(rest:List GTask):∀(i:Nat) ,(v0).drop i=rest→v0.length≤9223372036854775807→Ans (kW v1 rest i) (Om (q0:=q0) v0 v1 (i:Int)):=by
 induction rest with
 |nil =>intro i a b;have hb:=aI a;unfold kW;exact TT (TV (show xB (mS q0 v0 v1 (i:Int)) (.exit 0) (uc q0)from RP [T8 (v0.length:Int),.b false] (ALn v0 (GTask.t q0)<|AC hb<|AN)) (by intro h;cases h))
 |cons hd rest f =>
  intro i a b;have hb:=aC a;have g:=aD a b;have c:=aq a;have d:=aB a;unfold kW;apply TW<;>intro e
  ·exact TT (TV (show xB (mS q0 v0 v1 (i:Int)) .ret (sr q0 (i:Int))from RP [T8 (v0.length:Int),.b true,.row ((GTask.t q0) hd),.b true] (ALn v0 (GTask.t q0)<|AC hb<|AR (GTask.t q0) d<|AC e<|AN)) (by intro h;cases h))
  ·exact(f (i+1) c b).mono fun y j=>by have r:xB (mS q0 v0 v1 (i:Int)) .normal (mS q0 v0 v1 (inc (i:Int))):=RP [T8 (v0.length:Int),.b true,.row ((GTask.t q0) hd),.b false] (ALn v0 (GTask.t q0)<|AC hb<|AR (GTask.t q0) d<|AC e<|AN);rw[g]at r;cases y<;>exact TU r j
noncomputable def Ae (x0:List GTask)(b:ByteArray):Option (Int):=
  if x0.length≤9223372036854775807 then(kW b x0 0).bind fun y=>match y with
   | .ret a=>(some (a))
   | .x0=>(some ((-1:Int)))else none
theorem P5 {q0:Kd}(x0:List GTask)(c:ByteArray):Ans (Ae x0 c) (fun r=>Does E 87 [.one (.s .far () 5 (x0.map (GTask.t q0))),T7 c] [T2 r]):=by
 unfold Ae;refine TY (fun d => ?_);refine TX (fun y b => ?_);replace b:=Ol (q0:=q0) x0 c x0 0 rfl d y b;cases y with
 |ret a =>have e:=b;exact TT (DP Tryz.f87 [.lp .ret (sr q0 a)] (AL e<|AN))
 |x0 =>have e:=b;exact TT (DP Tryz.f87 [.lp (.exit 0) (uc q0)] (AL e<|AN))
noncomputable def zm (x0:GTask)(a:ByteArray):Option (Bool):=some (x0.f0.toList==a.toList)
theorem IK (x0:GTask)(a:ByteArray):Ans (zm x0 a) (fun r=>Does E 95 [.agg (GTask.t .far x0),.im .far () [tS a] 0] [T3 r]):=by unfold zm;exact TT (DP Tryz.f95 [] AN)
def kz (x:GTask)(n:ByteArray):Bool:=x.f0.toList==n.toList
def oW (n:ByteArray):List GTask→Nat→Int|[],_ => -1|t::r,i=>cond (kz t n) (i:Int) (oW n r (i+1))
def ar (ts:List GTask)(n:ByteArray):Int:=oW n ts 0
theorem oX (n:ByteArray):∀(l:List GTask)(i:Nat),(oW n l i = -1∧∀t∈l,kz t n=false)∨∃(k:Nat) (t:GTask),oW n l i=((i+k:Nat):Int)∧l[k]?=some t∧kz t n=true
 |[],i => .inl ⟨rfl,fun t a=>by cases a⟩
 |t::l,i=>by
  unfold oW;cases q:kz t n with
  |true=>exact .inr ⟨0,t,rfl,rfl,q⟩
  |false =>
   rw[Uu];rcases oX n l (i+1)with⟨h,b⟩|⟨k,u,c,d,e⟩
   ·exact .inl ⟨h,fun u hu=>by rcases UE.1 hu with rfl|hu;exact q;exact b u hu⟩
   ·exact .inr ⟨k+1,u,by rw[c];omega,d,e⟩
theorem Ow (ts:List GTask)(n:ByteArray): -1≤ar ts n∧ar ts n<(ts.length:Int):=by
 unfold ar;rcases oX n ts 0 with⟨h,_⟩|⟨k,t,b,a,_⟩
 ·rw[h];omega
 ·have:k<ts.length:=by
   rcases Ul k ts.length with g|g
   ·exact g
   ·rw[Uh g]at a;cases a
  rw[b];omega
theorem Mf {ts:List GTask}{n:ByteArray}(h:0≤ar ts n):∃t∈ts,tx t.f0=tx n:=by
 unfold ar at h;rcases oX n ts 0 with⟨b,_⟩|⟨k,t,c,h2,a⟩
 ·rw[b]at h;omega
 ·unfold kz at a;rw[gD,U7]at a;exact⟨t,Ue h2,a⟩
theorem Sa (n:ByteArray):∀(l:List GTask)(i:Nat),(kW n l i).bind (fun y=>match y with
   | .ret a=>(some (a))
   | .x0=>(some ((-1:Int))))=some (oW n l i)
 |[],i=>rfl
 |t::l,i=>by
  unfold kW oW;have e:(t.f0.toList==n.toList)=kz t n:=rfl;rw[e];cases kz t n with
  |true=>rfl
  |false=>exact Sa n l (i+1)
theorem yH (x0:GTask)(a:ByteArray):Does E 95 [.agg (GTask.t .far x0),.im .far () [tS a] 0] [T3 (kz x0 a)]:=by exact IK x0 a _ rfl
theorem gC {q0:Kd}(x0:List GTask)(a:ByteArray)(h:x0.length≤1050000):Does E 87 [.one (.s .far () 5 (x0.map (GTask.t q0))),T7 a] [T2 (ar x0 a)]:=by exact P5 x0 a _ (by unfold Ae;rw[Ub (by omega)];exact Sa a x0 0)
inductive hY where|ret (v4:Int)|x0
def bG (q0:Kd)(v0:List GTask)(a:ByteArray)(v7 v8:Int):US:=stL 19 [(0,.one (.s .far () 5 (v0.map (GTask.t q0)))),(1,.fni 95 [((),[tS a])]),(7,T5 v7),(8,T5 v8)]
def dA (q0:Kd)(a:Int):US:=stL 19 [(4,T5 a)]
def dK (q0:Kd)  : US:=stL 19 []
abbrev ef:US→Exit→US→Prop:=Round E 94 (am Tryz.f94 0)
def mY {q0:Kd}(v0:List GTask)(a:ByteArray)(v7 v8:Int):hY→Prop| .ret b=>Loops E 94 (am Tryz.f94 0) (bG q0 v0 a v7 v8) .ret (dA q0 b)| .x0=>Loops E 94 (am Tryz.f94 0) (bG q0 v0 a v7 v8) (.exit 0) (dK q0)
noncomputable def bm (a:ByteArray):List GTask→Nat→Option hY|[],i=>some (.x0)|hd::rest,i=>cond (kz hd a) (some (.ret (i:Int))) (bm a rest (i+1))
theorem mX {q0:Kd}(v0:List GTask)(a:ByteArray)(rest:List GTask):∀(i:Nat) ,(v0).drop i=rest→v0.length≤9223372036854775807→Ans (bm a rest i) (mY (q0:=q0) v0 a (v0.length:Int) (i:Int)):=by
 induction rest with
 |nil =>intro i b c;have hb:=aI b;unfold bm;exact TT (TV (show ef (bG q0 v0 a (v0.length:Int) (i:Int)) (.exit 0) (dK q0)from RP [.b false] (AC hb<|AN)) (by intro h;cases h))
 |cons hd rest g =>
  intro i b c;have hb:=aC b;have j:=aD b c;have d:=aq b;have e:=aB b;unfold bm;apply TW<;>intro f
  ·exact TT (TV (show ef (bG q0 v0 a (v0.length:Int) (i:Int)) .ret (dA q0 (i:Int))from RP [.b true,.row ((GTask.t q0) hd),rT] (AC hb<|AR (GTask.t q0) e<|AD (T1 (yH hd a) f)<|AN)) (by intro h;cases h))
  ·exact(g (i+1) d c).mono fun y k=>by have r:ef (bG q0 v0 a (v0.length:Int) (i:Int)) .normal (bG q0 v0 a (v0.length:Int) (inc (i:Int))):=RP [.b true,.row ((GTask.t q0) hd),rF] (AC hb<|AR (GTask.t q0) e<|AD (T1 (yH hd a) f)<|AN);rw[j]at r;cases y<;>exact TU r k
noncomputable def ey (x0:List GTask)(a:ByteArray):Option (Int):=
  if x0.length≤9223372036854775807 then(bm a x0 0).bind fun y=>match y with
   | .ret b=>(some (b))
   | .x0=>(some ((-1:Int)))else none
theorem nn {q0:Kd}(x0:List GTask)(a:ByteArray):Ans (ey x0 a) (fun r=>Does E 94 [.one (.s .far () 5 (x0.map (GTask.t q0))),.fni 95 [((),[tS a])]] [T2 r]):=by
 unfold ey;refine TY (fun d => ?_);refine TX (fun y c => ?_);replace c:=mX (q0:=q0) x0 a x0 0 rfl d y c;cases y with
 |ret b =>have e:=c;exact TT (DP Tryz.f94 [T8 (x0.length:Int),.lp .ret (dA q0 b)] (ALn x0 (GTask.t q0)<|AL e<|AN))
 |x0 =>have e:=c;exact TT (DP Tryz.f94 [T8 (x0.length:Int),.lp (.exit 0) (dK q0)] (ALn x0 (GTask.t q0)<|AL e<|AN))
theorem R9 (n:ByteArray):∀(l:List GTask)(i:Nat),(bm n l i).bind (fun y=>match y with
   | .ret a=>(some (a))
   | .x0=>(some ((-1:Int))))=some (oW n l i)
 |[],i=>rfl
 |t::l,i=>by
  unfold bm oW;cases kz t n with
  |true=>rfl
  |false=>exact R9 n l (i+1)
theorem m8 {q0:Kd}(x0:List GTask)(a:ByteArray)(h:x0.length≤1050000):Does E 94 [.one (.s .far () 5 (x0.map (GTask.t q0))),.fni 95 [((),[tS a])]] [T2 (ar x0 a)]:=by exact nn x0 a _ (by unfold ey;rw[Ub (by omega)];exact R9 a x0 0)
noncomputable def w8 (x0:GDag)(a:ByteArray):Option (Int):=if x0.f5.length≤1050000 then some (ar x0.f5 a)else none
theorem NB {q0:Kd}(x0:GDag)(a:ByteArray):Ans (w8 x0 a) (fun r=>Does E 69 [.agg (GDag.t .far q0 x0),T7 a] [T2 r]):=by unfold w8;refine TY (fun b => ?_);exact TT (DP Tryz.f69 [.ret [T2 (ar x0.f5 a)]] (AV (ψ:=fun k=>E.C k 94 [.one (.s .far () 5 (x0.f5.map (GTask.t q0))),.fni 95 [((),[tS a])]]=some [T2 (ar x0.f5 a)]) (m8 x0.f5 a b)<|AN))
def bR (d:GDag)(n:ByteArray):Int:=ar d.f5 n
theorem gk {q0:Kd}(x0:GDag)(a:ByteArray)(h:x0.f5.length≤1050000):Does E 69 [.agg (GDag.t .far q0 x0),T7 a] [T2 (bR x0 a)]:=by exact NB x0 a _ (by unfold w8;rw[Ub h];rfl)
inductive uC where|ret (v6:Bool)|x0
def gV (q0:Kd)(a b:ByteArray)(c d:Int)(e:Bool)(f:List GTask)(v2:List Int)(v10:List ByteArray)(v11 g:Int):US:=stL 25 [(0,.im .far () [tS a,tS b,tI c,tI d,tB e,.s .far () 5 (f.map (GTask.t q0))] 0),(2,.one (.s .far () 1 (v2.map etI))),(10,.one (.s .far () 1 (v10.map etS))),(11,T5 v11),(12,T5 g)]
def l5 (q0:Kd)(a:Bool):US:=stL 25 [(6,T6 a)]
def m9 (q0:Kd)  : US:=stL 25 []
abbrev pm:US→Exit→US→Prop:=Round E 97 (am Tryz.f97 0)
def C0 {q0:Kd}(a b:ByteArray)(c d:Int)(e:Bool)(f:List GTask)(v2:List Int)(v10:List ByteArray)(v11 g:Int):uC→Prop| .ret h=>Loops E 97 (am Tryz.f97 0) (gV q0 a b c d e f v2 v10 v11 g) .ret (l5 q0 h)| .x0=>Loops E 97 (am Tryz.f97 0) (gV q0 a b c d e f v2 v10 v11 g) (.exit 0) (m9 q0)
noncomputable def fu (b c:ByteArray)(d e:Int)(f:List GTask)(v2:List Int):List ByteArray→Nat→Bool→Option uC|[],i,a=>some (.x0)|hd::rest,i,a=>if(GDag.mk b c d e a f).f5.length≤1050000 then if v2.length≤1050000 then cond (ce v2 (bR (GDag.mk b c d e a f) hd)) (fu b c d e f v2 rest (i+1) a) (some (.ret false))else none else none
theorem CZ {q0:Kd}(b c:ByteArray)(d e:Int)(f:List GTask)(v2:List Int)(v10:List ByteArray)(rest:List ByteArray):∀(i:Nat)(a:Bool),(v10).drop i=rest→v10.length≤9223372036854775807→Ans (fu b c d e f v2 rest i a) (C0 (q0:=q0) b c d e a f v2 v10 (v10.length:Int) (i:Int)):=by
 induction rest with
 |nil =>intro i a g j;have hb:=aI g;unfold fu;exact TT (TV (show pm (gV q0 b c d e a f v2 v10 (v10.length:Int) (i:Int)) (.exit 0) (m9 q0)from RP [.b false] (AC hb<|AN)) (by intro h;cases h))
 |cons hd rest q =>
  intro i a g j;have hb:=aC g;have s:=aD g j;have l:=aq g;have m:=aB g;unfold fu;refine TY (fun n => ?_);refine TY (fun o => ?_);apply TW<;>intro p
  ·exact(q (i+1) a l j).mono fun y u=>by have r:pm (gV q0 b c d e a f v2 v10 (v10.length:Int) (i:Int)) .normal (gV q0 b c d e a f v2 v10 (v10.length:Int) (inc (i:Int))):=RP [.b true,.row (etS hd),.ret [T2 (bR (GDag.mk b c d e a f) hd)],rT] (AC hb<|AR etS m<|AV (ψ:=fun k=>E.C k 69 [.agg (GDag.t .far q0 (GDag.mk b c d e a f)),T7 hd]=some [T2 (bR (GDag.mk b c d e a f) hd)]) (gk (GDag.mk b c d e a f) hd n)<|AD (T1 (dL v2 (bR (GDag.mk b c d e a f) hd) o) p)<|AN);rw[s]at r;cases y<;>exact TU r u
  ·exact TT (TV (show pm (gV q0 b c d e a f v2 v10 (v10.length:Int) (i:Int)) .ret (l5 q0 false)from RP [.b true,.row (etS hd),.ret [T2 (bR (GDag.mk b c d e a f) hd)],rF] (AC hb<|AR etS m<|AV (ψ:=fun k=>E.C k 69 [.agg (GDag.t .far q0 (GDag.mk b c d e a f)),T7 hd]=some [T2 (bR (GDag.mk b c d e a f) hd)]) (gk (GDag.mk b c d e a f) hd n)<|AD (T1 (dL v2 (bR (GDag.mk b c d e a f) hd) o) p)<|AN)) (by intro h;cases h))
noncomputable def mz (x0:GDag)(b:GTask)(x2:List Int):Option (Bool):=
  if b.f4.length≤9223372036854775807 then(fu x0.f0 x0.f1 x0.f2 x0.f3 x0.f5 x2 b.f4 0 x0.f4).bind fun y=>match y with
   | .ret a=>(some (a))
   | .x0=>(some (true))else none
theorem El {q0:Kd}(x0:GDag)(a:GTask)(x2:List Int):Ans (mz x0 a x2) (fun r=>Does E 97 [.im .far () (GDag.t .far q0 x0) 0,.agg (GTask.t .far a),.one (.s .far () 1 (x2.map etI))] [T3 r]):=by
 unfold mz;refine TY (fun d => ?_);refine TX (fun y c => ?_);replace c:=CZ (q0:=q0) x0.f0 x0.f1 x0.f2 x0.f3 x0.f5 x2 a.f4 a.f4 0 x0.f4 rfl d y c;cases y with
 |ret b =>have e:=c;exact TT (DP Tryz.f97 [T8 (a.f4.length:Int),.lp .ret (l5 q0 b)] (ALn a.f4 etS<|AL e<|AN))
 |x0 =>have e:=c;exact TT (DP Tryz.f97 [T8 (a.f4.length:Int),.lp (.exit 0) (m9 q0)] (ALn a.f4 etS<|AL e<|AN))
def uA (ts:List GTask)(o:List Int)(t:GTask):Bool:=t.f4.all fun n=>ce o (ar ts n)
def zA (d:GDag)(t:GTask)(o:List Int):Bool:=uA d.f5 o t
theorem Pi (a b:ByteArray)(c e:Int)(ts:List GTask)(o:List Int)(d:ts.length≤1050000)(f:o.length≤1050000):∀(l:List ByteArray)(i:Nat)(z:Bool),fu a b c e ts o l i z=some (cond (l.all fun n=>ce o (ar ts n)) .x0 (.ret false))
 |[],i,z=>rfl
 |n::l,i,z=>by unfold fu;rw[Ub (show(GDag.mk a b c e z ts).f5.length≤1050000 from d),Ub f,Vl,Pi a b c e ts o d f l (i+1) z];show cond (ce o (ar ts n)) _ _=_;cases ce o (ar ts n)<;>rfl
theorem Si (d:GDag)(t:GTask)(o:List Int)(a:d.f5.length≤1050000)(c:t.f4.length≤1050000)(b:o.length≤1050000):mz d t o=some (zA d t o):=by unfold mz;rw[Ub (by omega),Pi _ _ _ _ _ _ a b];show _=some (t.f4.all fun n=>ce o (ar d.f5 n));cases t.f4.all fun n=>ce o (ar d.f5 n)<;>rfl
theorem D5 {q0:Kd}(x0:GDag)(a:GTask)(x2:List Int)(b:x0.f5.length≤1050000)(c:a.f4.length≤1050000)(d:x2.length≤1050000):Does E 97 [.im .far () (GDag.t .far q0 x0) 0,.agg (GTask.t .far a),.one (.s .far () 1 (x2.map etI))] [T3 (zA x0 a x2)]:=by exact El x0 a x2 _ (Si x0 a x2 b c d)
noncomputable def rS (x0:GTask)(a:List Int)(b:GDag):Option (Bool):=if b.f5.length≤1050000 then if a.length≤1050000 then cond (ce a (bR b x0.f0)) (some (false)) (if x0.f4.length≤1050000 then some (zA b x0 a)else none)else none else none
theorem GA {b:Kd}(x0:GTask)(c:List Int)(a:GDag):Ans (rS x0 c a) (fun r=>Does E 96 [.agg (GTask.t .far x0),.im .far () [.s .far () 1 (c.map etI)] 0,.im .far () [tS a.f0,tS a.f1,tI a.f2,tI a.f3,tB a.f4,.s .far () 5 (a.f5.map (GTask.t b))] 0] [T3 r]):=by
 unfold rS;refine TY (fun d => ?_);refine TY (fun e => ?_);apply TW<;>intro f
 ·exact TT (DP Tryz.f96 [.ret [T2 (bR a x0.f0)],rT] (AV (ψ:=fun k=>E.C k 69 [.agg (GDag.t .far b a),T7 x0.f0]=some [T2 (bR a x0.f0)]) (gk a x0.f0 d)<|AD (T1 (dL c (bR a x0.f0) e) f)<|AN))
 ·refine TY (fun g => ?_);exact TT (DP Tryz.f96 [.ret [T2 (bR a x0.f0)],rF,.ret [T3 (zA a x0 c)]] (AV (ψ:=fun k=>E.C k 69 [.agg (GDag.t .far b a),T7 x0.f0]=some [T2 (bR a x0.f0)]) (gk a x0.f0 d)<|AD (T1 (dL c (bR a x0.f0) e) f)<|AV (ψ:=fun k=>E.C k 97 [.im .far () [tS a.f0,tS a.f1,tI a.f2,tI a.f3,tB a.f4,.s .far () 5 (a.f5.map (GTask.t b))] 0,.agg (GTask.t .far x0),.one (.s .far () 1 (c.map etI))]=some [T3 (zA a x0 c)]) (D5 a x0 c d g e)<|AN))
def B6 (t:GTask)(o:List Int)(d:GDag):Bool := !ce o (ar d.f5 t.f0)&&uA d.f5 o t
theorem xG {c:Kd}(x0:GTask)(b:List Int)(a:GDag)(d:a.f5.length≤1050000)(e:x0.f4.length≤1050000)(f:b.length≤1050000):Does E 96 [.agg (GTask.t .far x0),.im .far () [.s .far () 1 (b.map etI)] 0,.im .far () [tS a.f0,tS a.f1,tI a.f2,tI a.f3,tB a.f4,.s .far () 5 (a.f5.map (GTask.t c))] 0] [T3 (B6 x0 b a)]:=by exact GA x0 b a _ (by unfold rS B6;simp only[d,e,f,UP];show cond (ce b (ar a.f5 x0.f0)) _ _=_;cases ce b (ar a.f5 x0.f0)<;>rfl)
inductive gP where|ret (v4:Int)|x0
def bD (q0:Kd)(qc1_1:Kd)(v0:List GTask)(a:List Int)(b c:ByteArray)(d e:Int)(f:Bool)(g:List GTask)(v7 v8:Int):US:=stL 19 [(0,.one (.s .far () 5 (v0.map (GTask.t q0)))),(1,.fni 96 [((),[.s .far () 1 (a.map etI)]),((),[tS b,tS c,tI d,tI e,tB f,.s .far () 5 (g.map (GTask.t qc1_1))])]),(7,T5 v7),(8,T5 v8)]
def dr (q0:Kd)(qc1_1:Kd)(a:Int):US:=stL 19 [(4,T5 a)]
def dB (q0:Kd)(qc1_1:Kd)  : US:=stL 19 []
abbrev dV:US→Exit→US→Prop:=Round E 94 (am Tryz.f94 0)
def mn {q0:Kd}{qc1_1:Kd}(v0:List GTask)(a:List Int)(b c:ByteArray)(d e:Int)(f:Bool)(g:List GTask)(v7 v8:Int):gP→Prop| .ret h=>Loops E 94 (am Tryz.f94 0) (bD q0 qc1_1 v0 a b c d e f g v7 v8) .ret (dr q0 qc1_1 h)| .x0=>Loops E 94 (am Tryz.f94 0) (bD q0 qc1_1 v0 a b c d e f g v7 v8) (.exit 0) (dB q0 qc1_1)
noncomputable def bg (b:List Int)(c d:ByteArray)(e f:Int)(g:List GTask):List GTask→Nat→Bool→Option gP|[],i,a=>some (.x0)|hd::rest,i,a=>if(GDag.mk c d e f a g).f5.length≤1050000 then if hd.f4.length≤1050000 then if b.length≤1050000 then cond (B6 hd b (GDag.mk c d e f a g)) (some (.ret (i:Int))) (bg b c d e f g rest (i+1) a)else none else none else none
theorem mm {q0:Kd}{qc1_1:Kd}(v0:List GTask)(b:List Int)(c d:ByteArray)(e f:Int)(g:List GTask)(rest:List GTask):∀(i:Nat)(a:Bool),(v0).drop i=rest→v0.length≤9223372036854775807→Ans (bg b c d e f g rest i a) (mn (q0:=q0) (qc1_1:=qc1_1) v0 b c d e f a g (v0.length:Int) (i:Int)):=by
 induction rest with
 |nil =>intro i a j l;have hb:=aI j;unfold bg;exact TT (TV (show dV (bD q0 qc1_1 v0 b c d e f a g (v0.length:Int) (i:Int)) (.exit 0) (dB q0 qc1_1)from RP [.b false] (AC hb<|AN)) (by intro h;cases h))
 |cons hd rest u =>
  intro i a j l;have hb:=aC j;have v:=aD j l;have m:=aq j;have n:=aB j;unfold bg;refine TY (fun o => ?_);refine TY (fun p => ?_);refine TY (fun q => ?_);apply TW<;>intro s
  ·exact TT (TV (show dV (bD q0 qc1_1 v0 b c d e f a g (v0.length:Int) (i:Int)) .ret (dr q0 qc1_1 (i:Int))from RP [.b true,.row ((GTask.t q0) hd),rT] (AC hb<|AR (GTask.t q0) n<|AV (ψ:=fun k=>E.C k 96 [.agg (GTask.t .far hd),.im .far () [.s .far () 1 (b.map etI)] 0,.im .far () [tS c,tS d,tI e,tI f,tB a,.s .far () 5 (g.map (GTask.t qc1_1))] 0]=some [T3 true]) (TZ (xG hd b (GDag.mk c d e f a g) o p q) (by rw[s]))<|AN)) (by intro h;cases h))
  ·exact(u (i+1) a m l).mono fun y w=>by have r:dV (bD q0 qc1_1 v0 b c d e f a g (v0.length:Int) (i:Int)) .normal (bD q0 qc1_1 v0 b c d e f a g (v0.length:Int) (inc (i:Int))):=RP [.b true,.row ((GTask.t q0) hd),rF] (AC hb<|AR (GTask.t q0) n<|AV (ψ:=fun k=>E.C k 96 [.agg (GTask.t .far hd),.im .far () [.s .far () 1 (b.map etI)] 0,.im .far () [tS c,tS d,tI e,tI f,tB a,.s .far () 5 (g.map (GTask.t qc1_1))] 0]=some [T3 false]) (TZ (xG hd b (GDag.mk c d e f a g) o p q) (by rw[s]))<|AN);rw[v]at r;cases y<;>exact TU r w
noncomputable def cN (x0:List GTask)(b:List Int)(a:GDag):Option (Int):=
  if x0.length≤9223372036854775807 then(bg b a.f0 a.f1 a.f2 a.f3 a.f5 x0 0 a.f4).bind fun y=>match y with
   | .ret c=>(some (c))
   | .x0=>(some ((-1:Int)))else none
theorem mZ {q0:Kd}{qc1_1:Kd}(x0:List GTask)(b:List Int)(a:GDag):Ans (cN x0 b a) (fun r=>Does E 94 [.one (.s .far () 5 (x0.map (GTask.t q0))),.fni 96 [((),[.s .far () 1 (b.map etI)]),((),[tS a.f0,tS a.f1,tI a.f2,tI a.f3,tB a.f4,.s .far () 5 (a.f5.map (GTask.t qc1_1))])]] [T2 r]):=by
 unfold cN;refine TY (fun e => ?_);refine TX (fun y d => ?_);replace d:=mm (q0:=q0) (qc1_1:=qc1_1) x0 b a.f0 a.f1 a.f2 a.f3 a.f5 x0 0 a.f4 rfl e y d;cases y with
 |ret c =>have f:=d;exact TT (DP Tryz.f94 [T8 (x0.length:Int),.lp .ret (dr q0 qc1_1 c)] (ALn x0 (GTask.t q0)<|AL f<|AN))
 |x0 =>have f:=d;exact TT (DP Tryz.f94 [T8 (x0.length:Int),.lp (.exit 0) (dB q0 qc1_1)] (ALn x0 (GTask.t q0)<|AL f<|AN))
def gf (o:List Int)(ts:List GTask):List GTask→Nat→Option Nat|[],_=>none|t::r,i=>if(!ce o (ar ts t.f0)&&uA ts o t)=true then some i else gf o ts r (i+1)
def cL (l:List GTask)(o:List Int)(d:GDag):Int:=match gf o d.f5 l 0 with|some i=>(i:Int)|none => -1
theorem PE (o:List Int)(a b:ByteArray)(c e:Int)(ts:List GTask)(f:ts.length≤1050000)(g:o.length≤1050000):∀(l:List GTask)(i:Nat)(z:Bool),ac.sm l→bg o a b c e ts l i z=some (match gf o ts l i with|some k => .ret (k:Int)|none => .x0)
 |[],i,z,_=>rfl
 |t::l,i,z,d=>by unfold bg gf;have h:t.f4.length≤1050000:=(d.2 t (by simp)).2.2.1;rw[Ub (show(GDag.mk a b c e z ts).f5.length≤1050000 from f),Ub h,Ub g,PE o a b c e ts f g l (i+1) z ⟨by have:=d.1;simp at this;omega,fun y j=>d.2 y (by simp[j])⟩];show cond (!ce o (ar ts t.f0)&&uA ts o t) _ _=_;cases(!ce o (ar ts t.f0)&&uA ts o t)<;>rfl
theorem Sr (l:List GTask)(o:List Int)(d:GDag)(a:ac.sm l)(b:d.f5.length≤1050000)(c:o.length≤1050000):cN l o d=some (cL l o d):=by unfold cN cL;rw[Ub (by have:=a.1;omega),PE o d.f0 d.f1 d.f2 d.f3 d.f5 b c l 0 d.f4 a];cases gf o d.f5 l 0<;>rfl
theorem gR {q0:Kd}{qc1_1:Kd}(x0:List GTask)(b:List Int)(a:GDag)(c:ac.sm x0)(d:a.f5.length≤1050000)(e:b.length≤1050000):Does E 94 [.one (.s .far () 5 (x0.map (GTask.t q0))),.fni 96 [((),[.s .far () 1 (b.map etI)]),((),[tS a.f0,tS a.f1,tI a.f2,tI a.f3,tB a.f4,.s .far () 5 (a.f5.map (GTask.t qc1_1))])]] [T2 (cL x0 b a)]:=by exact mZ x0 b a _ (Sr x0 b a c d e)
inductive zr where|ret (v2:List Int)
def pq (q0:Kd)(a b:ByteArray)(c d:Int)(e:Bool)(f:List GTask)(g:List Int):US:=stL 16 [(1,.box () [tS a,tS b,tI c,tI d,tB e,.s .far () 5 (f.map (GTask.t q0))]),(3,.box () [.s .own () 1 (g.map etI)])]
def lI (q0:Kd)(a:List Int):US:=stL 16 [(2,.one (.s .own () 1 (a.map etI)))]
abbrev zq:US→Exit→US→Prop:=Round E 70 (am Tryz.f70 0)
def IP {q0:Kd}(a b:ByteArray)(c d:Int)(e:Bool)(f:List GTask)(g:List Int):zr→Prop| .ret h=>Loops E 70 (am Tryz.f70 0) (pq q0 a b c d e f g) .ret (lI q0 h)
noncomputable def kf (c d:ByteArray)(e f:Int)(a:List GTask):Nat→Bool→(List Int)→Option zr| 0,_,_=>none|n+1,g,b=>if ac.sm a then if(GDag.mk c d e f g a).f5.length≤1050000 then if b.length≤1050000 then cond (decide ((cL a b (GDag.mk c d e f g a))<(0:Int))) (some (.ret b)) (if(b.length+([cL a b (GDag.mk c d e f g a)]).length)*8≤140737488355328∧b.length+([cL a b (GDag.mk c d e f g a)]).length≤4611686018427387904 then kf c d e f a n g (b++([cL a b (GDag.mk c d e f g a)]))else none)else none else none else none
theorem IN {q0:Kd}(d e:ByteArray)(f g:Int)(a:List GTask)(n:Nat):∀(c:Bool)(b:List Int),Ans (kf d e f g a n c b) (IP (q0:=q0) d e f g c a b):=by
 induction n with
 |zero=>intros;exact Ans.none
 |succ n o =>
  intro c b;unfold kf;refine TY (fun i => ?_);refine TY (fun j => ?_);refine TY (fun l => ?_);apply TW<;>intro m
  ·exact TT (TV (show zq (pq q0 d e f g c a b) .ret (lI q0 b)from Round.to (RP (D':=stL 16 [(2,.one (.s .own () 1 (((b.map etI).drop 0).take (b.map etI).length)))]) [.ret [T2 (cL a b (GDag.mk d e f g c a))],.b true] (AV (ψ:=fun k=>E.C k 94 [.one (.s .far () 5 (a.map (GTask.t q0))),.fni 96 [((),[.s .far () 1 (b.map etI)]),((),[tS d,tS e,tI f,tI g,tB c,.s .far () 5 (a.map (GTask.t q0))])]]=some [T2 (cL a b (GDag.mk d e f g c a))]) (gR a b (GDag.mk d e f g c a) i j l)<|AC m<|AN)) (by simp only[lI,UT,UM])) (by intro h;cases h))
  ·refine TY (fun q => ?_);have r:zq (pq q0 d e f g c a b) .normal (pq q0 d e f g c a (b++([cL a b (GDag.mk d e f g c a)]))):=RP [.ret [T2 (cL a b (GDag.mk d e f g c a))],.b false,.rows ((b++([cL a b (GDag.mk d e f g c a)])).map etI)] (AV (ψ:=fun k=>E.C k 94 [.one (.s .far () 5 (a.map (GTask.t q0))),.fni 96 [((),[.s .far () 1 (b.map etI)]),((),[tS d,tS e,tI f,tI g,tB c,.s .far () 5 (a.map (GTask.t q0))])]]=some [T2 (cL a b (GDag.mk d e f g c a))]) (gR a b (GDag.mk d e f g c a) i j l)<|AC m<|AC (p:=(((([cL a b (GDag.mk d e f g c a)]).map etI).drop 0).take (([cL a b (GDag.mk d e f g c a)]).map etI).length).all (fun r=>r.all T.flat)=true∧((((b.map etI).drop 0).take (b.map etI).length).length+(((([cL a b (GDag.mk d e f g c a)]).map etI).drop 0).take (([cL a b (GDag.mk d e f g c a)]).map etI).length).length)*8≤140737488355328∧(((b.map etI).drop 0).take (b.map etI).length).length+(((([cL a b (GDag.mk d e f g c a)]).map etI).drop 0).take (([cL a b (GDag.mk d e f g c a)]).map etI).length).length≤4611686018427387904) (by simp only[UT,UM];exact Rj (fun x=>rfl) q)<|AC (p:=(((b.map etI).drop 0).take (b.map etI).length)++(((([cL a b (GDag.mk d e f g c a)]).map etI).drop 0).take (([cL a b (GDag.mk d e f g c a)]).map etI).length)=(b++([cL a b (GDag.mk d e f g c a)])).map etI) (by simp only[UT,UM];exact OJ)<|AN);exact(o c (b++([cL a b (GDag.mk d e f g c a)]))).mono fun y s=>by cases y<;>exact TU r s
noncomputable def q9 (x0:GDag):Option ((List Int)):=
  (kf x0.f0 x0.f1 x0.f2 x0.f3 x0.f5 9223372036854775808 x0.f4 ([])).bind fun y=>match y with
   | .ret a=>(some (a))
theorem Lb {q0:Kd}(x0:GDag):Ans (q9 x0) (fun r=>Does E 70 [.agg (GDag.t .far q0 x0)] [(false,[.s .own () 1 (r.map etI)])]):=by
 unfold q9;refine TX (fun y b => ?_);replace b:=IN (q0:=q0) x0.f0 x0.f1 x0.f2 x0.f3 x0.f5 9223372036854775808 x0.f4 ([]) y b;cases y with
 |ret a =>have c:=b;exact TT (DP Tryz.f70 [.lp .ret (lI q0 a)] (AL c<|AN))
def fK (ts:List GTask):Prop:=ts.length≤4∧∀(i:Nat)(t:GTask),ts[i]?=some t→ar ts t.f0=(i:Int)
def nC (ts:List GTask):Nat→List Int→List Int
 | 0,o=>o
 |k+1,o=>match gf o ts ts 0 with|none=>o|some i=>nC ts k (o++[(i:Int)])
def nB (ts:List GTask):List Int:=nC ts ts.length []
def qD (d:GDag):List Int:=nB d.f5
theorem I4 {o:List Int}{x:Int}:ce o x=true↔x∈o:=by
 unfold ce;rw[VC];constructor
 ·rintro⟨y,h,e⟩;rw[V6]at e;subst e;exact h
 ·intro h;exact⟨x,h,by simp⟩
theorem yb {o:List Int}{ts:List GTask}:∀{l:List GTask}{i k:Nat},gf o ts l i=some k→∃t j,k=i+j∧l[j]?=some t∧ce o (ar ts t.f0)=false∧uA ts o t=true
 |[],i,k,h=>by cases h
 |t::l,i,k,h=>by
  unfold gf at h;split at h
  ·rename_i q;cases h;simp only[Ux,W8]at q;exact⟨t,0,rfl,rfl,q.1,q.2⟩
  ·obtain⟨u,j,c,a,b⟩:=yb h;exact⟨u,j+1,by omega,a,b⟩
def AA (n:Nat)(o:List Int):Nat:=((List.range n).filter fun i:Nat => !ce o (i:Int)).length
theorem FQ {α:Type}{p q:α→Bool}:∀{l:List α},(∀y,q y=true→p y=true)→(l.filter q).length≤(l.filter p).length
 |[],_=>by simp
 |z::l,h=>by
  have b:=FQ (l:=l) h;rw[VD,VD];cases a:q z with
  |true=>rw[h z a];simpa using b
  |false=>cases p z<;>simp<;>omega
theorem FR {α:Type}{p q:α→Bool}{x:α}:∀{l:List α},(∀y,q y=true→p y=true)→x∈l→p x=true→q x=false→(l.filter q).length<(l.filter p).length
 |y::l,h,hx,b,c=>by
  have le:=FQ (l:=l) h;rw[VD,VD];rcases UE.1 hx with rfl|hx
  ·rw[b,c];simp;omega
  ·have:=FR (l:=l) h hx b c;cases a:q y with
   |true=>rw[h y a];simpa using this
   |false=>cases p y<;>simp<;>omega
theorem PC {n i:Nat}{o:List Int}(hi:i<n)(h:ce o (i:Int)=false):AA n (o++[(i:Int)])<AA n o:=by
 unfold AA;refine FR (p:=fun i:Nat => !ce o (i:Int)) (q:=fun j:Nat => !ce (o++[(i:Int)]) (j:Int)) (x:=i) (fun y a => ?_) (U3.2 hi) (by rw[h];rfl) ?_
 ·rw[W8]at a ⊢;rw[←Wx,I4]at a ⊢;exact fun e=>a (by simp[e])
 ·have:ce (o++[(i:Int)]) (i:Int)=true:=I4.2 (by simp);rw[this];rfl
theorem Q2 (n:Nat):AA n []=n:=by
 unfold AA;have:(List.range n).filter (fun i:Nat => !ce [] (i:Int))=List.range n:=List.filter_eq_self.2 fun a _=>rfl
 rw[this,W5]
theorem MG (a b:ByteArray)(c e:Int)(ts:List GTask)(hs:ac.sm ts)(h:fK ts):∀(k n:Nat)(o:List Int)(z:Bool),AA ts.length o≤k→k<n→o.length+k≤1000→kf a b c e ts n z o=some (.ret (nC ts k o))
 |k,0,o,z,_,r,_=>by omega
 |k,n+1,o,z,v,r,w=>by
  unfold kf;rw[Ub hs,Ub (show(GDag.mk a b c e z ts).f5.length≤1050000 from hs.1),Ub (by omega)];have s:cL ts o (GDag.mk a b c e z ts)=match gf o ts ts 0 with|some i=>(i:Int)|none => -1:=rfl
  rw[s];cases q:gf o ts ts 0 with
  |none =>
   have:nC ts k o=o:=by
    cases k with
    |zero=>rfl
    |succ k=>unfold nC;rw[q]
   rw[this];rfl
  |some i =>
   obtain⟨t,j,x,d,l,y⟩:=yb q;have f:i=j:=by omega
   subst f;rw[h.2 i t d]at l;have hi:i<ts.length:=by
    rcases Ul i ts.length with g|g
    ·exact g
    ·rw[Uh g]at d;cases d
   have p:=PC hi l;obtain⟨k,rfl⟩:∃m,k=m+1:=⟨k-1,by omega⟩
   have u:=MG a b c e ts hs h k n (o++[(i:Int)]) z (by omega) (by omega) (by simp;omega);simp only;rw[Uk (by omega),Uu,Ub (by simp;omega),u]
   conv=>rhs;unfold nC
   rw[q]
theorem PL (d:GDag)(h:ac.sm d)(a:fK d.f5):q9 d=some (qD d):=by have hs:ac.sm d.f5:=h.2.2;unfold q9;have:=MG d.f0 d.f1 d.f2 d.f3 d.f5 hs a d.f5.length 9223372036854775808 [] d.f4 (by rw[Q2];exact UV _) (by have:=a.1;omega) (by have:=a.1;simp;omega);refine(Uz (Option.bind · _) this).trans rfl
theorem Kz {q0:Kd}(x0:GDag)(h:ac.sm x0)(a:fK x0.f5):Does E 70 [.agg (GDag.t .far q0 x0)] [(false,[.s .own () 1 ((qD x0).map etI)])]:=by exact Lb x0 _ (PL x0 h a)
inductive yq where|x4 (v6:Bool)
def ik (q0:Kd)(v0:List GTask)(v3:List Int)(v4 v5:Int)(v6:Bool)(v7:Int):US:=stL 57 [(0,.one (.s .far () 5 (v0.map (GTask.t q0)))),(3,.one (.s .own () 1 (v3.map etI))),(4,T5 v4),(5,T5 v5),(6,T6 v6),(7,T5 v7)]
def jO (q0:Kd)(v0:List GTask)(v3:List Int)(v4 v5:Int)(a:Bool):US:=stL 57 [(0,.one (.s .far () 5 (v0.map (GTask.t q0)))),(3,.one (.s .own () 1 (v3.map etI))),(4,T5 v4),(5,T5 v5),(6,T6 a)]
abbrev oc:US→Exit→US→Prop:=Round E 60 (am Tryz.f60 2)
def Hk {q0:Kd}(v0:List GTask)(v3:List Int)(v4 v5:Int)(v6:Bool)(v7:Int):yq→Prop| .x4 a=>Loops E 60 (am Tryz.f60 2) (ik q0 v0 v3 v4 v5 v6 v7) (.exit 4) (jO q0 v0 v3 v4 v5 a)
noncomputable def fV (v0:List GTask)(v3:List Int)(v5:Int):Nat→Bool→Int→Option yq
 | 0,_,_=>none
 |n+1,v6,v7=>match v6 with
  |true=>(ak v0 v5).bind fun a=>cond (decide (v7<(a.f4.length:Int)))
   ((ak a.f4 v7).bind fun g1=>if v0.length≤1050000 then if v3.length≤1050000 then fV v0 v3 v5 n (ce v3 (ar v0 g1)) (inc v7)else none else none)
   (some (.x4 v6))
  |false=>(ak v0 v5).bind fun a=>cond (decide (v7<(a.f4.length:Int)))
   (fV v0 v3 v5 n false (inc v7))
   (some (.x4 v6))
theorem Hh {q0:Kd}(v0:List GTask)(v3:List Int)(v4 v5:Int)(n:Nat):∀(v6:Bool)(v7:Int),Ans (fV v0 v3 v5 n v6 v7) (Hk (q0:=q0) v0 v3 v4 v5 v6 v7):=by
 induction n with
 |zero=>intros;exact Ans.none
 |succ n e =>
  intro v6 v7;unfold fV;cases v6 with
  |true =>
   refine TX (fun a b => ?_);apply TW<;>intro c
   ·refine TX (fun g1 f => ?_);refine TY (fun g => ?_);refine TY (fun i => ?_);have r:oc (ik q0 v0 v3 v4 v5 true v7) .normal (ik q0 v0 v3 v4 v5 (ce v3 (ar v0 g1)) (inc v7)):=RP [.row ((GTask.t q0) a),T8 (a.f4.length:Int),.b true,.row ((GTask.t q0) a),.row (etS g1),.ret [T2 (ar v0 g1)],.ret [T3 (ce v3 (ar v0 g1))]] (AR (GTask.t q0) b<|ALn a.f4 etS<|AC c<|AR (GTask.t q0) b<|AR etS f<|AV (ψ:=fun k=>E.C k 87 [.one (.s .far () 5 (v0.map (GTask.t q0))),T7 g1]=some [T2 (ar v0 g1)]) (gC v0 g1 g)<|AV (ψ:=fun k=>E.C k 39 [.one (.s .far () 1 (((v3.map etI).drop 0).take (v3.map etI).length)),T5 (ar v0 g1)]=some [T3 (ce v3 (ar v0 g1))]) (T0 (by simp only[UT,UM]) (oA v3 (ar v0 g1) i))<|AN);exact(e (ce v3 (ar v0 g1)) (inc v7)).mono fun y d=>by cases y<;>exact TU r d
   ·exact TT (TV (show oc (ik q0 v0 v3 v4 v5 true v7) (.exit 4) (jO q0 v0 v3 v4 v5 true)from RP [.row ((GTask.t q0) a),T8 (a.f4.length:Int),.b false] (AR (GTask.t q0) b<|ALn a.f4 etS<|AC c<|AN)) (by intro h;cases h))
  |false =>
   refine TX (fun a b => ?_);apply TW<;>intro c
   ·have r:oc (ik q0 v0 v3 v4 v5 false v7) .normal (ik q0 v0 v3 v4 v5 false (inc v7)):=RP [.row ((GTask.t q0) a),T8 (a.f4.length:Int),.b true] (AR (GTask.t q0) b<|ALn a.f4 etS<|AC c<|AN);exact(e false (inc v7)).mono fun y d=>by cases y<;>exact TU r d
   ·exact TT (TV (show oc (ik q0 v0 v3 v4 v5 false v7) (.exit 4) (jO q0 v0 v3 v4 v5 false)from RP [.row ((GTask.t q0) a),T8 (a.f4.length:Int),.b false] (AR (GTask.t q0) b<|ALn a.f4 etS<|AC c<|AN)) (by intro h;cases h))
inductive yn where|x2 (v3:List Int)
def fU (q0:Kd)(v0:List GTask)(v3:List Int)(v4 v5:Int):US:=stL 57 [(0,.one (.s .far () 5 (v0.map (GTask.t q0)))),(3,.one (.s .own () 1 (v3.map etI))),(4,T5 v4),(5,T5 v5)]
def p9 (q0:Kd)(v0:List GTask)(v4:Int)(a:List Int):US:=stL 57 [(0,.one (.s .far () 5 (v0.map (GTask.t q0)))),(3,.one (.s .own () 1 (a.map etI))),(4,T5 v4)]
abbrev ob:US→Exit→US→Prop:=Round E 60 (am Tryz.f60 1)
def Hj {q0:Kd}(v0:List GTask)(v3:List Int)(v4 v5:Int):yn→Prop| .x2 a=>Loops E 60 (am Tryz.f60 1) (fU q0 v0 v3 v4 v5) (.exit 2) (p9 q0 v0 v4 a)
noncomputable def d6 (v0:List GTask):Nat→(List Int)→Int→Option yn
 | 0,_,_=>none
 |n+1,v3,v5=>cond (decide (v5<(v0.length:Int)))
  (if v3.length≤1050000 then cond (ce v3 v5)
   (d6 v0 n v3 (inc v5))
   ((fV v0 v3 v5 9223372036854775808 true 0).bind fun y=>match y with
    | .x4 a=>(match a with
     |true=>if(v3.length+([v5]).length)*8≤140737488355328∧v3.length+([v5]).length≤4611686018427387904 then d6 v0 n (v3++([v5])) (inc (v0.length:Int))else none
     |false=>d6 v0 n v3 (inc v5)))else none)
  (some (.x2 v3))
theorem Hg {q0:Kd}(v0:List GTask)(v4:Int)(n:Nat):∀(v3:List Int)(v5:Int),Ans (d6 v0 n v3 v5) (Hj (q0:=q0) v0 v3 v4 v5):=by
 induction n with
 |zero=>intros;exact Ans.none
 |succ n d =>
  intro v3 v5;unfold d6;apply TW<;>intro c
  ·refine TY (fun e => ?_);apply TW<;>intro f
   ·have r:ob (fU q0 v0 v3 v4 v5) .normal (fU q0 v0 v3 v4 (inc v5)):=RP [T8 (v0.length:Int),.b true,rT] (ALn v0 (GTask.t q0)<|AC c<|AV (ψ:=fun k=>E.C k 39 [.one (.s .far () 1 (((v3.map etI).drop 0).take (v3.map etI).length)),T5 v5]=some [T3 true]) (T0 (by simp only[UT,UM]) (TZ (oA v3 v5 e) (by rw[f])))<|AN);exact(d v3 (inc v5)).mono fun y a=>by cases y<;>exact TU r a
   ·refine TX (fun y a => ?_);replace a:=Hh (q0:=q0) v0 v3 v4 v5 9223372036854775808 true 0 y a;cases y with
    |x4 b =>
     have g:=a;cases b with
     |true =>refine TY (fun i => ?_);have r:ob (fU q0 v0 v3 v4 v5) .normal (fU q0 v0 (v3++([v5])) v4 (inc (v0.length:Int))):=RP [T8 (v0.length:Int),.b true,rF,.lp (.exit 4) (jO q0 v0 v3 v4 v5 true),.rows ((v3++([v5])).map etI),T8 (v0.length:Int)] (ALn v0 (GTask.t q0)<|AC c<|AV (ψ:=fun k=>E.C k 39 [.one (.s .far () 1 (((v3.map etI).drop 0).take (v3.map etI).length)),T5 v5]=some [T3 false]) (T0 (by simp only[UT,UM]) (TZ (oA v3 v5 e) (by rw[f])))<|AL g<|AAp etI (fun _=>rfl) i<|ALn v0 (GTask.t q0)<|AN);exact(d (v3++([v5])) (inc (v0.length:Int))).mono fun y a=>by cases y<;>exact TU r a
     |false =>have r:ob (fU q0 v0 v3 v4 v5) .normal (fU q0 v0 v3 v4 (inc v5)):=RP [T8 (v0.length:Int),.b true,rF,.lp (.exit 4) (jO q0 v0 v3 v4 v5 false)] (ALn v0 (GTask.t q0)<|AC c<|AV (ψ:=fun k=>E.C k 39 [.one (.s .far () 1 (((v3.map etI).drop 0).take (v3.map etI).length)),T5 v5]=some [T3 false]) (T0 (by simp only[UT,UM]) (TZ (oA v3 v5 e) (by rw[f])))<|AL g<|AN);exact(d v3 (inc v5)).mono fun y a=>by cases y<;>exact TU r a
  ·exact TT (TV (show ob (fU q0 v0 v3 v4 v5) (.exit 2) (p9 q0 v0 v4 v3)from RP [T8 (v0.length:Int),.b false] (ALn v0 (GTask.t q0)<|AC c<|AN)) (by intro h;cases h))
inductive ym where|x0 (v3:List Int)
def oe (q0:Kd)(v0:List GTask)(v3:List Int)(v4:Int):US:=stL 57 [(0,.one (.s .far () 5 (v0.map (GTask.t q0)))),(3,.one (.s .own () 1 (v3.map etI))),(4,T5 v4)]
def p8 (q0:Kd)(a:List Int):US:=stL 57 [(3,.one (.s .own () 1 (a.map etI)))]
abbrev yl:US→Exit→US→Prop:=Round E 60 (am Tryz.f60 0)
def Hi {q0:Kd}(v0:List GTask)(v3:List Int)(v4:Int):ym→Prop| .x0 a=>Loops E 60 (am Tryz.f60 0) (oe q0 v0 v3 v4) (.exit 0) (p8 q0 a)
noncomputable def il (v0:List GTask):List GTask→Nat→(List Int)→Option ym
 |[],i,v3=>some (.x0 v3)
 |hd::rest,i,v3=>(d6 v0 9223372036854775808 v3 0).bind fun y=>match y with
  | .x2 a=>(il v0 rest (i+1) a)
theorem Hf {q0:Kd}(v0:List GTask)(rest:List GTask):∀(i:Nat)(v3:List Int),(v0).drop i=rest→v0.length≤9223372036854775807→Ans (il v0 rest i v3) (Hi (q0:=q0) v0 v3 (i:Int)):=by
 induction rest with
 |nil =>intro i v3 b d;have hb:=aI b;unfold il;exact TT (TV (show yl (oe q0 v0 v3 (i:Int)) (.exit 0) (p8 q0 v3)from RP [T8 (v0.length:Int),.b false] (ALn v0 (GTask.t q0)<|AC hb<|AN)) (by intro h;cases h))
 |cons hd rest f =>
  intro i v3 b d;have hb:=aC b;have g:=aD b d;have e:=aq b;have k:=aB b;unfold il;refine TX (fun y c => ?_);replace c:=Hg (q0:=q0) v0 (i:Int) 9223372036854775808 v3 0 y c;cases y with
  |x2 a =>have j:=c;exact(f (i+1) a e d).mono fun y c=>by have r:yl (oe q0 v0 v3 (i:Int)) .normal (oe q0 v0 a (inc (i:Int))):=RP [T8 (v0.length:Int),.b true,.lp (.exit 2) (p9 q0 v0 (i:Int) a)] (ALn v0 (GTask.t q0)<|AC hb<|AL j<|AN);rw[g]at r;cases y<;>exact TU r c
noncomputable def qa (x0:List GTask):Option ((List Int)):=
  if x0.length≤9223372036854775807 then(il x0 x0 0 ([])).bind fun y=>match y with
   | .x0 a=>(some (a))else none
theorem J4 {q0:Kd}(x0:List GTask):Ans (qa x0) (fun r=>Does E 60 [.one (.s .far () 5 (x0.map (GTask.t q0)))] [(false,[.s .own () 1 (r.map etI)])]):=by
 unfold qa;refine TY (fun b => ?_);refine TX (fun y c => ?_);replace c:=Hf (q0:=q0) x0 x0 0 ([]) rfl b y c;cases y with
 |x0 a =>have d:=c;exact TT (DP Tryz.f60 [.lp (.exit 0) (p8 q0 a)] (AL d<|AN))
theorem JW (ts:List GTask)(o:List Int)(i:Nat)(t:GTask)(c:ts.length≤1050000)(d:o.length≤1050000)(hi:ts[i]?=some t)(hf:t.f4.length≤1050000):∀(m k n:Nat)(b:Bool),k+m=t.f4.length→m<n →
  fV ts o (i:Int) n b (k:Int)=some (.x4 (b&&((t.f4.drop k).all fun x=>ce o (ar ts x))))
 |m,k,0,b,_,g=>by omega
 |m,k,n+1,b,j,g=>by
  have f:ak ts (i:Int)=some t:=by rw[ct];exact hi
  unfold fV;cases m with
  |zero =>have hd:t.f4.drop k=[]:=U0 (by omega);rw[hd];cases b<;>(simp only[f,Ua];rw[Uk (by omega)];rfl)
  |succ m =>
   have a:∃x,t.f4[k]?=some x:=⟨t.f4[k]'(by omega),Ug (by omega)⟩
   obtain⟨x,a⟩:=a;have hd:t.f4.drop k=x::t.f4.drop (k+1):=by rw[VK (by omega:k<t.f4.length)];rw[Ug (by omega)]at a;rw[V9 a]
   have e:inc (k:Int)=((k+1:Nat):Int):=by rw[rD _ (by omega) (by omega)];omega
   rw[hd,Vl];cases b with
   |false =>simp only[f,Ua];rw[Uj (by omega),Uo,e,JW ts o i t c d hi hf m (k+1) n false (by omega) (by omega)];rfl
   |true =>
    have h:ak t.f4 (k:Int)=some x:=by rw[ct];exact a
    simp only[f,Ua];rw[Uj (by omega),Uo,h,Ua,Ub c,Ub d,e,JW ts o i t c d hi hf m (k+1) n _ (by omega) (by omega)];rfl
theorem MJ (ts:List GTask)(hs:ac.sm ts)(b:fK ts)(o:List Int)(l:o.length≤1000):∀(m i n:Nat),i+m=ts.length→m+1<n →
  d6 ts n o (i:Int)=some (.x2 (match gf o ts (ts.drop i) i with|some k=>o++[(k:Int)]|none=>o))
 |m,i,0,_,p=>by omega
 |m,i,n+1,hi,p=>by
  have q:=b.1;unfold d6;cases m with
  |zero =>have hd:ts.drop i=[]:=U0 (by omega);rw[hd,Uk (by omega)];rfl
  |succ m =>
   have a:i<ts.length:=by omega
   have f:ts[i]?=some ts[i]:=Ug a;have hd:ts.drop i=ts[i]::ts.drop (i+1):=VK a;have hf:ts[i].f4.length≤1050000:=(hs.2 ts[i] (VA _)).2.2.1;have e:inc (i:Int)=((i+1:Nat):Int):=by rw[rD _ (by omega) (by omega)];omega
   have c:=b.2 i _ f;have g:=JW ts o i ts[i] hs.1 (by omega) f hf ts[i].f4.length 0 9223372036854775808 true (by omega) (by omega);have h:=MJ ts hs b o l m (i+1) n (by omega) (by omega);rw[UM,UJ]at g;have d:fV ts o (i:Int) 9223372036854775808 true (0:Int)=some (.x4 (uA ts o ts[i])):=g;rw[Uj (by omega),Uo,Ub (by omega),hd,d,e];unfold gf;rw[c];cases ce o (i:Int)with
   |true=>rw[Uo,h];rfl
   |false =>
    rw[Uu,Ua];cases uA ts o ts[i]with
    |false =>simp only[h];rfl
    |true =>
     have stop:∀w,d6 ts n w (inc (ts.length:Int))=some (.x2 w):=fun w=>by
      obtain⟨n,rfl⟩:∃j,n=j+1:=⟨n-1,by omega⟩
      unfold d6;rw[rD _ (by omega) (by omega),Uk (by omega)];rfl
     simp only[stop];rw[Ub (by simp;omega)];rfl
theorem Ce (ts:List GTask)(hs:ac.sm ts)(a:fK ts):∀(l:List GTask)(i:Nat)(o:List Int),o.length+l.length≤1000→il ts l i o=some (.x0 (nC ts l.length o))
 |[],i,o,_=>rfl
 |x::l,i,o,b=>by
  have c:=a.1;simp only[UK]at b;unfold il;have r:=MJ ts hs a o (by omega) ts.length 0 9223372036854775808 (by omega) (by omega);rw[UM]at r;refine(Uz (Option.bind · _) r).trans ?_;rw[Ua];simp only[UK];unfold nC;cases q:gf o ts ts 0 with
  |none =>
   simp only;rw[Ce ts hs a l (i+1) o (by omega)];have:∀k,nC ts k o=o:=fun k=>by
    cases k with
    |zero=>rfl
    |succ k=>unfold nC;rw[q]
   rw[this]
  |some k =>simp only;exact Ce ts hs a l (i+1) _ (by simp;omega)
theorem RS (ts:List GTask)(hs:ac.sm ts)(a:fK ts):qa ts=some (nB ts):=by have b:=a.1;unfold qa;rw[Ub (by omega),Ce ts hs a ts 0 [] (by simp;omega)];rfl
theorem HU {q0:Kd}(x0:List GTask)(h:ac.sm x0)(a:fK x0):Does E 60 [.one (.s .far () 5 (x0.map (GTask.t q0)))] [(false,[.s .own () 1 ((nB x0).map etI)])]:=by exact J4 x0 _ (RS x0 h a)
inductive Bd where|ret (v2:Bool)|x0
def gn (a b:ByteArray)(c:Int)(d:Bool)(e v28:List ByteArray)(f g:Int):US:=stL 54 [(1,.box () [tS a,tS b,tI c,tB d,.s .far () 1 (e.map etS)]),(28,.one (.s .far () 1 (v28.map etS))),(29,T5 f),(30,T5 g)]
def mF (a:Bool):US:=stL 54 [(2,T6 a)]
def rW  : US:=stL 54 []
abbrev nA:US→Exit→US→Prop:=Round E 68 (am Tryz.f68 0)
def Li (a b:ByteArray)(c:Int)(d:Bool)(e v28:List ByteArray)(f g:Int):Bd→Prop| .ret h=>Loops E 68 (am Tryz.f68 0) (gn a b c d e v28 f g) .ret (mF h)| .x0=>Loops E 68 (am Tryz.f68 0) (gn a b c d e v28 f g) (.exit 0) (rW)
noncomputable def iB (a:ByteArray)(b:List ByteArray):List ByteArray→Nat→Bool→Option Bd|[],i,c=>some (.x0)|hd::rest,i,c=>cond (hd.toList==a.toList) (some (.ret false)) (cond (decide ((i:Int)>(0:Int))) ((ak b (IntKind.wrap .i64 ((i:Int)-(1:Int)))).bind fun g1=>cond (Op.bytesLess hd.toList g1.toList ||hd.toList==g1.toList) (some (.ret false)) (iB a b rest (i+1) c)) (iB a b rest (i+1) c))
theorem Lh (b d:ByteArray)(e:Int)(c v28:List ByteArray)(rest:List ByteArray):∀(i:Nat)(a:Bool),(v28).drop i=rest→v28.length≤9223372036854775807→Ans (iB b c rest i a) (Li b d e a c v28 (v28.length:Int) (i:Int)):=by
 induction rest with
 |nil =>intro i a f j;have hb:=aI f;unfold iB;exact TT (TV (show nA (gn b d e a c v28 (v28.length:Int) (i:Int)) (.exit 0) (rW)from RP [.b false] (AC hb<|AN)) (by intro h;cases h))
 |cons hd rest o =>
  intro i a f j;have hb:=aC f;have p:=aD f j;have g:=aq f;have k:=aB f;unfold iB;apply TW<;>intro l
  ·exact TT (TV (show nA (gn b d e a c v28 (v28.length:Int) (i:Int)) .ret (mF false)from RP [.b true,.row (etS hd),.b true] (AC hb<|AR etS k<|AC l<|AN)) (by intro h;cases h))
  ·apply TW<;>intro m
   ·refine TX (fun g1 q => ?_);apply TW<;>intro s
    ·exact TT (TV (show nA (gn b d e a c v28 (v28.length:Int) (i:Int)) .ret (mF false)from RP [.b true,.row (etS hd),.b false,.b true,.row (etS g1),.b true] (AC hb<|AR etS k<|AC l<|AC m<|AR etS q<|AC s<|AN)) (by intro h;cases h))
    ·exact(o (i+1) a g j).mono fun y n=>by have r:nA (gn b d e a c v28 (v28.length:Int) (i:Int)) .normal (gn b d e a c v28 (v28.length:Int) (inc (i:Int))):=RP [.b true,.row (etS hd),.b false,.b true,.row (etS g1),.b false] (AC hb<|AR etS k<|AC l<|AC m<|AR etS q<|AC s<|AN);rw[p]at r;cases y<;>exact TU r n
   ·exact(o (i+1) a g j).mono fun y n=>by have r:nA (gn b d e a c v28 (v28.length:Int) (i:Int)) .normal (gn b d e a c v28 (v28.length:Int) (inc (i:Int))):=RP [.b true,.row (etS hd),.b false,.b false] (AC hb<|AR etS k<|AC l<|AC m<|AN);rw[p]at r;cases y<;>exact TU r n
noncomputable def sN (x0:GTask):Option (Bool):=
  if x0.f0.size≤2000000 then cond (eK x0.f0)
   (cond ((aY x0.f1)==(0:Int))
    (some (false))
    (cond (ae x0.f2 0 3)
     (cond (decide ((x0.f4.length:Int)>(4:Int)))
      (some (false))
      (if x0.f4.length≤9223372036854775807 then(iB x0.f0 x0.f4 x0.f4 0 x0.f3).bind fun y=>match y with
       | .ret a=>(some (a))
       | .x0=>(some (true))else none))
     (some (false))))
   (some (false))else none
theorem NK (x0:GTask):Ans (sN x0) (fun r=>Does E 68 [.agg (GTask.t .far x0)] [T3 r]):=by
 unfold sN;refine TY (fun a => ?_);apply TW<;>intro b
 ·apply TW<;>intro c
  ·exact TT (DP Tryz.f68 [rT,.ret [T2 (aY x0.f1)],.b true] (AD (T1 (dC x0.f0 a) b)<|AD (iX x0.f1)<|AC c<|AN))
  ·apply TW<;>intro e
   ·apply TW<;>intro g
    ·exact TT (DP Tryz.f68 [rT,.ret [T2 (aY x0.f1)],.b false,rT,T8 (x0.f4.length:Int),.b true] (AD (T1 (dC x0.f0 a) b)<|AD (iX x0.f1)<|AC c<|AD (T1 (an x0.f2 0 3) e)<|ALn x0.f4 etS<|AC g<|AN))
    ·refine TY (fun h => ?_);refine TX (fun y f => ?_);replace f:=Lh x0.f0 x0.f1 x0.f2 x0.f4 x0.f4 x0.f4 0 x0.f3 rfl h y f;cases y with
     |ret d =>have i:=f;exact TT (DP Tryz.f68 [rT,.ret [T2 (aY x0.f1)],.b false,rT,T8 (x0.f4.length:Int),.b false,T8 (x0.f4.length:Int),.lp .ret (mF d)] (AD (T1 (dC x0.f0 a) b)<|AD (iX x0.f1)<|AC c<|AD (T1 (an x0.f2 0 3) e)<|ALn x0.f4 etS<|AC g<|ALn x0.f4 etS<|AL i<|AN))
     |x0 =>have i:=f;exact TT (DP Tryz.f68 [rT,.ret [T2 (aY x0.f1)],.b false,rT,T8 (x0.f4.length:Int),.b false,T8 (x0.f4.length:Int),.lp (.exit 0) (rW)] (AD (T1 (dC x0.f0 a) b)<|AD (iX x0.f1)<|AC c<|AD (T1 (an x0.f2 0 3) e)<|ALn x0.f4 etS<|AC g<|ALn x0.f4 etS<|AL i<|AN))
   ·exact TT (DP Tryz.f68 [rT,.ret [T2 (aY x0.f1)],.b false,rF] (AD (T1 (dC x0.f0 a) b)<|AD (iX x0.f1)<|AC c<|AD (T1 (an x0.f2 0 3) e)<|AN))
 ·exact TT (DP Tryz.f68 [rF] (AD (T1 (dC x0.f0 a) b)<|AN))
inductive Af where|ret (v4:Bool)|x0
def bQ (q0:Kd)(v0:List GTask)(a b:ByteArray)(c:Int)(d:Bool)(e:List ByteArray)(v6:Int):US:=stL 78 [(0,.one (.s .far () 5 (v0.map (GTask.t q0)))),(5,.box () [tS a,tS b,tI c,tB d,.s .far () 1 (e.map etS)]),(6,T5 v6)]
def eD (q0:Kd)(a:Bool):US:=stL 78 [(4,T6 a)]
def mT (q0:Kd)  : US:=stL 78 []
abbrev dq:US→Exit→US→Prop:=Round E 59 (am Tryz.f59 0)
def J6 {q0:Kd}(v0:List GTask)(a b:ByteArray)(c:Int)(d:Bool)(e:List ByteArray)(v6:Int):Af→Prop| .ret f=>Loops E 59 (am Tryz.f59 0) (bQ q0 v0 a b c d e v6) .ret (eD q0 f)| .x0=>Loops E 59 (am Tryz.f59 0) (bQ q0 v0 a b c d e v6) (.exit 0) (mT q0)
theorem EM {q0:Kd}(v0:List GTask)(c d:ByteArray)(e:Int)(f:Bool)(a:List ByteArray)(v6:Int)(b:ByteArray)(g:(decide (v6<(a.length:Int)))=true)(h:ak a v6=some b)(i:v0.length≤1050000)(j:(decide ((ar v0 b)<(0:Int)))=true):dq (bQ q0 v0 c d e f a v6) .ret (eD q0 false):=
 RP [T8 (a.length:Int),.b true,.row (etS b),.ret [T2 (ar v0 b)],.b true] (ALn a etS<|AC g<|AR etS h<|AV (ψ:=fun k=>E.C k 87 [.one (.s .far () 5 (v0.map (GTask.t q0))),T7 b]=some [T2 (ar v0 b)]) (gC v0 b i)<|AC j<|AN)
theorem EN {q0:Kd}(v0:List GTask)(c d:ByteArray)(e:Int)(f:Bool)(a:List ByteArray)(v6:Int)(b:ByteArray)(h:(decide (v6<(a.length:Int)))=true)(g:ak a v6=some b)(i:v0.length≤1050000)(j:(decide ((ar v0 b)<(0:Int)))=false)(l:(b.toList==c.toList)=true):dq (bQ q0 v0 c d e f a v6) .ret (eD q0 false):=
 RP [T8 (a.length:Int),.b true,.row (etS b),.ret [T2 (ar v0 b)],.b false,.row (etS b),.b true] (ALn a etS<|AC h<|AR etS g<|AV (ψ:=fun k=>E.C k 87 [.one (.s .far () 5 (v0.map (GTask.t q0))),T7 b]=some [T2 (ar v0 b)]) (gC v0 b i)<|AC j<|AR etS g<|AC l<|AN)
theorem EO {q0:Kd}(v0:List GTask)(c d:ByteArray)(e:Int)(f:Bool)(a:List ByteArray)(v6:Int)(b g1:ByteArray)(h:(decide (v6<(a.length:Int)))=true)(g:ak a v6=some b)(i:v0.length≤1050000)(j:(decide ((ar v0 b)<(0:Int)))=false)(l:(b.toList==c.toList)=false)(m:(decide (v6>(0:Int)))=true)(n:ak a (IntKind.wrap .i64 (v6-(1:Int)))=some g1)(o:(!Op.bytesLess g1.toList b.toList)=true):dq (bQ q0 v0 c d e f a v6) .ret (eD q0 false):=
 RP [T8 (a.length:Int),.b true,.row (etS b),.ret [T2 (ar v0 b)],.b false,.row (etS b),.b false,.b true,.row (etS g1),.row (etS b),.b true] (ALn a etS<|AC h<|AR etS g<|AV (ψ:=fun k=>E.C k 87 [.one (.s .far () 5 (v0.map (GTask.t q0))),T7 b]=some [T2 (ar v0 b)]) (gC v0 b i)<|AC j<|AR etS g<|AC l<|AC m<|AR etS n<|AR etS g<|AC o<|AN)
theorem EP {q0:Kd}(v0:List GTask)(b d:ByteArray)(e:Int)(f:Bool)(a:List ByteArray)(v6:Int)(c g1:ByteArray)(h:(decide (v6<(a.length:Int)))=true)(g:ak a v6=some c)(i:v0.length≤1050000)(j:(decide ((ar v0 c)<(0:Int)))=false)(l:(c.toList==b.toList)=false)(m:(decide (v6>(0:Int)))=true)(n:ak a (IntKind.wrap .i64 (v6-(1:Int)))=some g1)(o:(!Op.bytesLess g1.toList c.toList)=false):dq (bQ q0 v0 b d e f a v6) .normal (bQ q0 v0 b d e f a (inc v6)):=
 RP [T8 (a.length:Int),.b true,.row (etS c),.ret [T2 (ar v0 c)],.b false,.row (etS c),.b false,.b true,.row (etS g1),.row (etS c),.b false] (ALn a etS<|AC h<|AR etS g<|AV (ψ:=fun k=>E.C k 87 [.one (.s .far () 5 (v0.map (GTask.t q0))),T7 c]=some [T2 (ar v0 c)]) (gC v0 c i)<|AC j<|AR etS g<|AC l<|AC m<|AR etS n<|AR etS g<|AC o<|AN)
theorem EQ {q0:Kd}(v0:List GTask)(b d:ByteArray)(e:Int)(f:Bool)(a:List ByteArray)(v6:Int)(c:ByteArray)(h:(decide (v6<(a.length:Int)))=true)(g:ak a v6=some c)(i:v0.length≤1050000)(j:(decide ((ar v0 c)<(0:Int)))=false)(l:(c.toList==b.toList)=false)(m:(decide (v6>(0:Int)))=false):dq (bQ q0 v0 b d e f a v6) .normal (bQ q0 v0 b d e f a (inc v6)):=
 RP [T8 (a.length:Int),.b true,.row (etS c),.ret [T2 (ar v0 c)],.b false,.row (etS c),.b false,.b false] (ALn a etS<|AC h<|AR etS g<|AV (ψ:=fun k=>E.C k 87 [.one (.s .far () 5 (v0.map (GTask.t q0))),T7 c]=some [T2 (ar v0 c)]) (gC v0 c i)<|AC j<|AR etS g<|AC l<|AC m<|AN)
theorem ER {q0:Kd}(v0:List GTask)(b c:ByteArray)(d:Int)(e:Bool)(a:List ByteArray)(v6:Int)(f:(decide (v6<(a.length:Int)))=false):dq (bQ q0 v0 b c d e a v6) (.exit 0) (mT q0):=
 RP [T8 (a.length:Int),.b false] (ALn a etS<|AC f<|AN)
noncomputable def gM (v0:List GTask)(a:ByteArray)(b:List ByteArray):List ByteArray→Nat→Bool→Option Af|[],i,c=>some (.x0)|hd::rest,i,c=>if v0.length≤1050000 then cond (decide ((ar v0 hd)<(0:Int))) (some (.ret false)) (cond (hd.toList==a.toList) (some (.ret false)) (cond (decide ((i:Int)>(0:Int))) ((ak b (IntKind.wrap .i64 ((i:Int)-(1:Int)))).bind fun g1=>cond (!Op.bytesLess g1.toList hd.toList) (some (.ret false)) (gM v0 a b rest (i+1) c)) (gM v0 a b rest (i+1) c)))else none
theorem J5 {q0:Kd}(v0:List GTask)(c d:ByteArray)(e:Int)(b:List ByteArray)(rest:List ByteArray):∀(i:Nat)(a:Bool),(b).drop i=rest→b.length≤9223372036854775807→Ans (gM v0 c b rest i a) (J6 (q0:=q0) v0 c d e a b (i:Int)):=by
 induction rest with
 |nil =>intro i a f m;have hb:=aI f;unfold gM;exact TT (TV (show dq (bQ q0 v0 c d e a b (i:Int)) (.exit 0) (mT q0)from ER (q0:=q0) v0 c d e a b (i:Int) hb) (by intro h;cases h))
 |cons hd rest q =>
  intro i a f m;have hb:=aC f;have s:=aD f m;have g:=aq f;have j:=aB f;unfold gM;refine TY (fun k => ?_);apply TW<;>intro l
  ·exact TT (TV (show dq (bQ q0 v0 c d e a b (i:Int)) .ret (eD q0 false)from EM (q0:=q0) v0 c d e a b (i:Int) hd hb j k l) (by intro h;cases h))
  ·apply TW<;>intro n
   ·exact TT (TV (show dq (bQ q0 v0 c d e a b (i:Int)) .ret (eD q0 false)from EN (q0:=q0) v0 c d e a b (i:Int) hd hb j k l n) (by intro h;cases h))
   ·apply TW<;>intro o
    ·refine TX (fun g1 t => ?_);apply TW<;>intro u
     ·exact TT (TV (show dq (bQ q0 v0 c d e a b (i:Int)) .ret (eD q0 false)from EO (q0:=q0) v0 c d e a b (i:Int) hd g1 hb j k l n o t u) (by intro h;cases h))
     ·exact(q (i+1) a g m).mono fun y p=>by have r:dq (bQ q0 v0 c d e a b (i:Int)) .normal (bQ q0 v0 c d e a b (inc (i:Int))):=EP (q0:=q0) v0 c d e a b (i:Int) hd g1 hb j k l n o t u;rw[s]at r;cases y<;>exact TU r p
    ·exact(q (i+1) a g m).mono fun y p=>by have r:dq (bQ q0 v0 c d e a b (i:Int)) .normal (bQ q0 v0 c d e a b (inc (i:Int))):=EQ (q0:=q0) v0 c d e a b (i:Int) hd hb j k l n o;rw[s]at r;cases y<;>exact TU r p
noncomputable def rm (x0:List GTask)(c:Int):Option (Bool):=
  (ak x0 c).bind fun a=>if a.f0.size≤2000000 then cond (eK a.f0)
   (if x0.length≤1050000 then cond ((ar x0 a.f0) != c)
    (some (false))
    (cond ((aY a.f1)==(0:Int))
     (some (false))
     (cond (ae a.f2 0 3)
      (if a.f4.length≤9223372036854775807 then(gM x0 a.f0 a.f4 a.f4 0 a.f3).bind fun y=>match y with
       | .ret b=>(some (b))
       | .x0=>(some (true))else none)
      (some (false))))else none)
   (some (false))else none
theorem LZ {q0:Kd}(x0:List GTask)(n:Int):Ans (rm x0 n) (fun r=>Does E 59 [.one (.s .far () 5 (x0.map (GTask.t q0))),T5 n] [T3 r]):=by
 unfold rm;refine TX (fun a b => ?_);refine TY (fun c => ?_);apply TW<;>intro d
 ·refine TY (fun e => ?_);apply TW<;>intro f
  ·exact TT (DP Tryz.f59 [.row ((GTask.t q0) a),rT,.ret [T2 (ar x0 a.f0)],.b true] (AR (GTask.t q0) b<|AD (T1 (da a.f0 c) d)<|AV (ψ:=fun k=>E.C k 87 [.one (.s .far () 5 (x0.map (GTask.t q0))),T7 a.f0]=some [T2 (ar x0 a.f0)]) (gC x0 a.f0 e)<|AC f<|AN))
  ·apply TW<;>intro h
   ·exact TT (DP Tryz.f59 [.row ((GTask.t q0) a),rT,.ret [T2 (ar x0 a.f0)],.b false,.ret [T2 (aY a.f1)],.b true] (AR (GTask.t q0) b<|AD (T1 (da a.f0 c) d)<|AV (ψ:=fun k=>E.C k 87 [.one (.s .far () 5 (x0.map (GTask.t q0))),T7 a.f0]=some [T2 (ar x0 a.f0)]) (gC x0 a.f0 e)<|AC f<|AD (oU a.f1)<|AC h<|AN))
   ·apply TW<;>intro j
    ·refine TY (fun l => ?_);refine TX (fun y i => ?_);replace i:=J5 (q0:=q0) x0 a.f0 a.f1 a.f2 a.f4 a.f4 0 a.f3 rfl l y i;cases y with
     |ret g =>have m:=i;exact TT (DP Tryz.f59 [.row ((GTask.t q0) a),rT,.ret [T2 (ar x0 a.f0)],.b false,.ret [T2 (aY a.f1)],.b false,rT,.lp .ret (eD q0 g)] (AR (GTask.t q0) b<|AD (T1 (da a.f0 c) d)<|AV (ψ:=fun k=>E.C k 87 [.one (.s .far () 5 (x0.map (GTask.t q0))),T7 a.f0]=some [T2 (ar x0 a.f0)]) (gC x0 a.f0 e)<|AC f<|AD (oU a.f1)<|AC h<|AD (T1 (ag a.f2 0 3) j)<|AL m<|AN))
     |x0 =>have m:=i;exact TT (DP Tryz.f59 [.row ((GTask.t q0) a),rT,.ret [T2 (ar x0 a.f0)],.b false,.ret [T2 (aY a.f1)],.b false,rT,.lp (.exit 0) (mT q0)] (AR (GTask.t q0) b<|AD (T1 (da a.f0 c) d)<|AV (ψ:=fun k=>E.C k 87 [.one (.s .far () 5 (x0.map (GTask.t q0))),T7 a.f0]=some [T2 (ar x0 a.f0)]) (gC x0 a.f0 e)<|AC f<|AD (oU a.f1)<|AC h<|AD (T1 (ag a.f2 0 3) j)<|AL m<|AN))
    ·exact TT (DP Tryz.f59 [.row ((GTask.t q0) a),rT,.ret [T2 (ar x0 a.f0)],.b false,.ret [T2 (aY a.f1)],.b false,rF] (AR (GTask.t q0) b<|AD (T1 (da a.f0 c) d)<|AV (ψ:=fun k=>E.C k 87 [.one (.s .far () 5 (x0.map (GTask.t q0))),T7 a.f0]=some [T2 (ar x0 a.f0)]) (gC x0 a.f0 e)<|AC f<|AD (oU a.f1)<|AC h<|AD (T1 (ag a.f2 0 3) j)<|AN))
 ·exact TT (DP Tryz.f59 [.row ((GTask.t q0) a),rF] (AR (GTask.t q0) b<|AD (T1 (da a.f0 c) d)<|AN))
def asc (self:ByteArray):List ByteArray→Option ByteArray→Bool
 |[],_=>true
 |x::l,p => !(x.toList==self.toList)&&(match p with|some y=>Op.bytesLess y.toList x.toList|none=>true)&&asc self l (some x)
theorem B3:∀a b:List UInt8,(Op.bytesLess a b ||a==b)= !Op.bytesLess b a
 |[],[]=>rfl
 |[],_::_=>rfl
 |_::_,[]=>rfl
 |x::a,y::b=>by
  have g:=B3 a b;unfold Op.bytesLess;have e:(x::a==y::b)=(x==y&&a==b):=rfl;rw[e];rcases Ws x.toNat y.toNat with h|h|h
  ·have d:x<y:=VM.2 h;have c:¬y<x:=fun q=>by have:=VM.1 q;omega
   have f:(y==x)=false:=by rw[Va];intro q;subst q;omega
   simp[d,c,f]
  ·have i:x=y:=Xg.1 h;subst i;have c:¬x<x:=fun q=>by have:=VM.1 q;omega
   simp only[c,decide_false,W2,beq_self_eq_true,UJ];exact g
  ·have d:y<x:=VM.2 h;have c:¬x<y:=fun q=>by have:=VM.1 q;omega
   have f:(x==y)=false:=by rw[Va];intro q;subst q;omega
   simp[d,c,f]
theorem Bi:∀a:List UInt8,Op.bytesLess a a=false
 |[]=>rfl
 |x::a=>by
  unfold Op.bytesLess;have b:¬x<x:=fun q=>by have:=VM.1 q;omega
  simp[b,Bi a]
theorem Dj:∀{a b c:List UInt8},Op.bytesLess a b=true→Op.bytesLess b c=true→Op.bytesLess a c=true
 |[],[],_,h,_=>by cases h
 |[],_::_,[],_,h=>by cases h
 |[],_::_,_::_,_,_=>rfl
 |_::_,[],_,h,_=>by cases h
 |_::_,_::_,[],_,h=>by cases h
 |x::a,y::b,z::c,e,d=>by
  unfold Op.bytesLess at *;simp only[WQ,U7,Ux,V6,VM]at *;rcases e with e|⟨rfl,e⟩
  ·rcases d with d|⟨rfl,d⟩
   ·exact .inl (by omega)
   ·exact .inl e
  ·rcases d with d|⟨rfl,d⟩
   ·exact .inl d
   ·exact .inr ⟨rfl,Dj e d⟩
theorem ut (self:ByteArray):∀(l:List ByteArray)(p:Option ByteArray),asc self l p=true→(l.map tx).Nodup∧∀y,p=some y→∀x∈l,Op.bytesLess (tx y) (tx x)=true
 |[],p,_=>⟨by simp,fun y _ x hx=>by cases hx⟩
 |z::l,p,h=>by
  unfold asc at h;simp only[Ux]at h;obtain⟨c,d⟩:=ut self l (some z) h.2;have a:=d z rfl;refine⟨?_,fun y e x hx => ?_⟩
  ·rw[Uv,WR];refine⟨fun q => ?_,c⟩;obtain⟨w,f,e⟩:=Uw.1 q;have:=a w f;rw[e,Bi]at this;cases this
  ·subst e;have b:Op.bytesLess (tx y) (tx z)=true:=by have:=h.1.2;simp only[Ea]at this;exact this
   rcases UE.1 hx with rfl|hx
   ·exact b
   ·exact Dj b (a x hx)
theorem MO {α:Type}[DecidableEq α]:∀{l m:List α},l.Nodup→(∀x∈l,x∈m)→l.length≤m.length
 |[],_,_,_=>Wq _
 |x::l,m,h,a=>by
  rw[WR]at h;have b:=a x (by simp);have:=MO (l:=l) (m:=m.erase x) h.2 fun y c=>(List.mem_erase_of_ne (fun e=>h.1 (by rw[←e];exact c))).2 (a y (by simp[c]))
  rw[Xc b]at this;have:0<m.length:=List.length_pos_of_mem b;simp only[UK];omega
theorem Rk (self:ByteArray)(ay:List ByteArray)(c:ay.length≤1050000):∀(rest:List ByteArray)(i:Nat)(z:Bool),ay.drop i=rest→iB self ay rest i z=some (cond (asc self rest (if i=0 then none else ay[i-1]?)) .x0 (.ret false))
 |[],i,z,_=>rfl
 |x::rest,i,z,h=>by
  have a:=Rk self ay c rest (i+1) z (aq h);have d:(if i+1=0 then none else ay[i+1-1]?)=some x:=by rw[Un (by omega)];show ay[i]?=some x;rw[←Wz,h];rfl
  rw[d]at a;unfold iB asc;rw[a];cases x.toList==self.toList with
  |true=>rfl
  |false =>
   rw[Uu];by_cases q:i=0
   ·subst q;rw[Uk (by omega),Ub rfl,Uu];rfl
   ·have hi:i-1<ay.length:=by
     rcases Ul i ay.length with g|g
     ·omega
     ·rw[U0 g]at h;cases h
    have e:i≤ay.length:=by
     rcases Ul i ay.length with g|g
     ·omega
     ·rw[U0 g]at h;cases h
    have b:ay[i-1]?=some ay[i-1]:=Ug hi;have f:ak ay (IntKind.wrap .i64 ((i:Int)-1))=some ay[i-1]:=by rw[em _ (by omega) (by omega),show((i:Int)-1)=((i-1:Nat):Int) by omega,ct,b]
    rw[Uj (by omega),Un q,Uo,f,Ua,b,B3];simp only[WA,UJ];cases Op.bytesLess ay[i-1].toList x.toList<;>rfl
theorem Rl (ts:List GTask)(a:ts.length≤1050000)(self:ByteArray)(ay:List ByteArray)(d:ay.length≤1050000):∀(rest:List ByteArray)(i:Nat)(z:Bool),ay.drop i=rest→gM ts self ay rest i z=some (cond (asc self rest (if i=0 then none else ay[i-1]?)&&rest.all fun n=>decide (0≤ar ts n)) .x0 (.ret false))
 |[],i,z,_=>rfl
 |x::rest,i,z,h=>by
  have b:=Rl ts a self ay d rest (i+1) z (aq h);have e:(if i+1=0 then none else ay[i+1-1]?)=some x:=by rw[Un (by omega)];show ay[i]?=some x;rw[←Wz,h];rfl
  rw[e]at b;unfold gM asc;rw[b,Ub a,Vl];by_cases w:ar ts x<0
  ·rw[Uj w,Uk (by omega:¬ 0≤ar ts x),Wv,VR];rfl
  ·rw[Uk w,Uj (by omega:0≤ar ts x),UJ,Uu];cases x.toList==self.toList with
   |true=>rfl
   |false =>
    rw[Uu];by_cases q:i=0
    ·subst q;rw[Uk (by omega),Ub rfl,Uu];rfl
    ·have hi:i-1<ay.length:=by
      rcases Ul i ay.length with g|g
      ·omega
      ·rw[U0 g]at h;cases h
     have f:i≤ay.length:=by
      rcases Ul i ay.length with g|g
      ·omega
      ·rw[U0 g]at h;cases h
     have c:ay[i-1]?=some ay[i-1]:=Ug hi;have j:ak ay (IntKind.wrap .i64 ((i:Int)-1))=some ay[i-1]:=by rw[em _ (by omega) (by omega),show((i:Int)-1)=((i-1:Nat):Int) by omega,ct,c]
     rw[Uj (by omega),Un q,Uo,j,Ua,c];simp only[WA,UJ];cases Op.bytesLess ay[i-1].toList x.toList<;>rfl
noncomputable def ui (t:GTask):Bool:=eK t.f0&&((aY t.f1 != 0)&&(ae t.f2 0 3&&(decide (t.f4.length≤4)&&asc t.f0 t.f4 none)))
noncomputable def jh (ts:List GTask)(i:Int)(t:GTask):Bool:=eK t.f0&&((ar ts t.f0==i)&&((aY t.f1 != 0)&&(ae t.f2 0 3&&(asc t.f0 t.f4 none&&t.f4.all fun n=>decide (0≤ar ts n)))))
noncomputable def oO (ts:List GTask)(i:Int):Bool:=match ak ts i with|some t=>jh ts i t|none=>false
theorem MN {t:GTask}(h:ac.sm t):t.f0.size≤2000000:=by have:t.f0.size≤1050000:=h.1;omega
theorem Re (t:GTask)(h:ac.sm t):sN t=some (ui t):=by
 have a:t.f4.length≤1050000:=h.2.2.1;unfold sN ui;rw[Ub (MN h)];cases eK t.f0 with
 |false=>rfl
 |true =>
  have e:(aY t.f1 != 0)= !(aY t.f1==0):=rfl;rw[Uo,UJ,e];cases aY t.f1==0 with
  |true=>rfl
  |false =>
   rw[Uu,WA,UJ];cases ae t.f2 0 3 with
   |false=>rfl
   |true =>
    rw[Uo,UJ];by_cases q:t.f4.length≤4
    ·rw[Uk (by omega),Uu,Uj q,Ub (by omega),Rk t.f0 t.f4 a t.f4 0 t.f3 rfl,Ub rfl,UJ];cases asc t.f0 t.f4 none<;>rfl
    ·rw[Uj (by omega),Uk q];rfl
theorem Mg (ts:List GTask)(i:Int)(h:ac.sm ts)(hi:0≤i∧i<(ts.length:Int)):rm ts i=some (oO ts i):=by
 obtain⟨t,b,c⟩:=gU hi;have a:=h.2 t c;have d:t.f4.length≤1050000:=a.2.2.1;unfold rm oO jh;rw[b,Ua,Ub (MN a)];simp only;cases eK t.f0 with
 |false=>rfl
 |true =>
  have f:(ar ts t.f0 != i)= !(ar ts t.f0==i):=rfl;have e:(aY t.f1 != 0)= !(aY t.f1==0):=rfl;rw[Uo,UJ,Ub h.1,f,e];cases ar ts t.f0==i with
  |false=>rfl
  |true =>
   rw[Vg,Uu,UJ];cases aY t.f1==0 with
   |true=>rfl
   |false =>
    rw[Uu,WA,UJ];cases ae t.f2 0 3 with
    |false=>rfl
    |true =>rw[Uo,UJ,Ub (by omega),Rl ts h.1 t.f0 t.f4 d t.f4 0 t.f3 rfl,Ub rfl];cases(asc t.f0 t.f4 none&&t.f4.all fun n=>decide (0≤ar ts n))<;>rfl
theorem Ox (ts:List GTask)(f:ts.length≤4)(i:Int)(t:GTask):jh ts i t=(ui t&&((ar ts t.f0==i)&&t.f4.all fun n=>decide (0≤ar ts n))):=by
 unfold jh ui;by_cases q:asc t.f0 t.f4 none=true∧(t.f4.all fun n=>decide (0≤ar ts n))=true
 ·have a:t.f4.length≤4:=by
   have:=MO (l:=t.f4.map tx) (m:=ts.map fun u=>tx u.f0) (ut t.f0 t.f4 none q.1).1 (fun x b=>by obtain⟨n,c,rfl⟩:=Uw.1 b;have:=Ut.1 q.2 n c;obtain⟨u,d,e⟩:=Mf (Wa this);exact Uw.2 ⟨u,d,e⟩);simp only[UH]at this;omega
  rw[Uj a,q.1,q.2];cases eK t.f0<;>cases ar ts t.f0==i<;>cases aY t.f1 != 0<;>cases ae t.f2 0 3<;>rfl
 ·have hf:(asc t.f0 t.f4 none&&t.f4.all fun n=>decide (0≤ar ts n))=false:=by rw[←Wx,Ux];exact q
  rw[hf];revert hf;generalize (t.f4.all fun n=>decide (0≤ar ts n))=B;generalize asc t.f0 t.f4 none=A;generalize decide (t.f4.length≤4)=C;intro hf;cases A<;>cases B<;>simp at hf<;>cases eK t.f0<;>cases ar ts t.f0==i<;>cases aY t.f1 != 0<;>cases ae t.f2 0 3<;>cases C<;>rfl
theorem sD (x0:GTask)(h:ac.sm x0):Does E 68 [.agg (GTask.t .far x0)] [T3 (ui x0)]:=by exact NK x0 _ (Re x0 h)
theorem AQ {q0:Kd}(x0:List GTask)(a:Int)(h:ac.sm x0)(hi:0≤a∧a<(x0.length:Int)):Does E 59 [.one (.s .far () 5 (x0.map (GTask.t q0))),T5 a] [T3 (oO x0 a)]:=by exact LZ x0 a _ (Mg x0 a h hi)
noncomputable def sL (x0:ByteArray):Option (Bool):=cond ((au x0).2) (if ac.sm ((au x0).1)then some (((bi ((au x0).1)).1).toList==x0.toList)else none) (if ac.sm ((au x0).1)then some (false)else none)
theorem NE (x0:ByteArray):Ans (sL x0) (fun r=>Does E 67 [T7 x0] [T3 r]):=by
 unfold sL;apply TW<;>intro b
 ·refine TY (fun a => ?_);exact TT (DP Tryz.f67 [.ret [(true,GCron.t .own ((au x0).1)),T3 true],.ret [T4 ((bi ((au x0).1)).1),T3 ((bi ((au x0).1)).2)]] (AD (un x0 b)<|AD (yF ((au x0).1) a)<|AN))
 ·refine TY (fun a => ?_);exact TT (DP Tryz.f67 [.ret [(true,GCron.t .own ((au x0).1)),T3 false],.ret [T4 ((bi ((au x0).1)).1),T3 ((bi ((au x0).1)).2)]] (AD (un x0 b)<|AD (yF ((au x0).1) a)<|AN))
noncomputable def kG (s:ByteArray):Bool:=(au s).2&&((bi (au s).1).1.toList==s.toList)
theorem QA (s:ByteArray):sL s=some (kG s):=by unfold sL kG;simp only[Jw s,UP];cases(au s).2<;>rfl
theorem kF (x0:ByteArray):Does E 67 [T7 x0] [T3 (kG x0)]:=by exact NE x0 _ (QA x0)
inductive Dx where|ret (v2:Bool)|x0
def mO (q0:Kd)(a b:ByteArray)(c d:Int)(e:Bool)(f:List GTask)(v7:Int):US:=stL 74 [(1,.box () [tS a,tS b,tI c,tI d,tB e,.s .far () 5 (f.map (GTask.t q0))]),(7,T5 v7)]
def sf (q0:Kd)(a:Bool):US:=stL 74 [(2,T6 a)]
def t6 (q0:Kd)(a b:ByteArray)(c d:Int)(e:Bool)(f:List GTask):US:=stL 74 [(1,.box () [tS a,tS b,tI c,tI d,tB e,.s .far () 5 (f.map (GTask.t q0))])]
abbrev xz:US→Exit→US→Prop:=Round E 34 (am Tryz.f34 0)
def Of {q0:Kd}(a b:ByteArray)(c d:Int)(e:Bool)(f:List GTask)(v7:Int):Dx→Prop| .ret g=>Loops E 34 (am Tryz.f34 0) (mO q0 a b c d e f v7) .ret (sf q0 g)| .x0=>Loops E 34 (am Tryz.f34 0) (mO q0 a b c d e f v7) (.exit 0) (t6 q0 a b c d e f)
noncomputable def kS (a:List GTask):List GTask→Nat→Bool→Option Dx|[],i,b=>some (.x0)|hd::rest,i,b=>if ac.sm a then if 0≤(i:Int)∧(i:Int)<(a.length:Int)then cond (oO a (i:Int)) (kS a rest (i+1) b) (some (.ret false))else none else none
theorem Oe {q0:Kd}(c d:ByteArray)(e f:Int)(a:List GTask)(rest:List GTask):∀(i:Nat)(b:Bool),(a).drop i=rest→a.length≤9223372036854775807→Ans (kS a rest i b) (Of (q0:=q0) c d e f b a (i:Int)):=by
 induction rest with
 |nil =>intro i b g j;have hb:=aI g;unfold kS;exact TT (TV (show xz (mO q0 c d e f b a (i:Int)) (.exit 0) (t6 q0 c d e f b a)from RP [T8 (a.length:Int),.b false] (ALn a (GTask.t q0)<|AC hb<|AN)) (by intro h;cases h))
 |cons hd rest p =>
  intro i b g j;have hb:=aC g;have q:=aD g j;have l:=aq g;have u:=aB g;unfold kS;refine TY (fun m => ?_);refine TY (fun n => ?_);apply TW<;>intro o
  ·exact(p (i+1) b l j).mono fun y s=>by have r:xz (mO q0 c d e f b a (i:Int)) .normal (mO q0 c d e f b a (inc (i:Int))):=RP [T8 (a.length:Int),.b true,rT] (ALn a (GTask.t q0)<|AC hb<|AV (ψ:=fun k=>E.C k 59 [.one (.s .far () 5 (a.map (GTask.t q0))),T5 (i:Int)]=some [T3 true]) (TZ (AQ a (i:Int) m n) (by rw[o]))<|AN);rw[q]at r;cases y<;>exact TU r s
  ·exact TT (TV (show xz (mO q0 c d e f b a (i:Int)) .ret (sf q0 false)from RP [T8 (a.length:Int),.b true,rF] (ALn a (GTask.t q0)<|AC hb<|AV (ψ:=fun k=>E.C k 59 [.one (.s .far () 5 (a.map (GTask.t q0))),T5 (i:Int)]=some [T3 false]) (TZ (AQ a (i:Int) m n) (by rw[o]))<|AN)) (by intro h;cases h))
noncomputable def uQ (x0:GDag):Option (Bool):=
  cond ((au x0.f1).2)
   (if ac.sm ((au x0.f1).1)then if x0.f0.size≤2000000 then cond (eK x0.f0)
    (cond (!(((bi ((au x0.f1).1)).1).toList==x0.f1.toList))
     (some (false))
     (cond (ae x0.f3 0 68374079)
      (cond (ae x0.f2 0 x0.f3)
       (cond (ae (x0.f5.length:Int) 1 4)
        (if x0.f5.length≤9223372036854775807 then(kS x0.f5 x0.f5 0 x0.f4).bind fun y=>match y with
         | .ret a=>(some (a))
         | .x0=>(if ac.sm x0.f5 then if fK x0.f5 then some (((nB x0.f5).length:Int)==(x0.f5.length:Int))else none else none)else none)
        (some (false)))
       (some (false)))
      (some (false))))
    (some (false))else none else none)
   (if ac.sm ((au x0.f1).1)then if x0.f0.size≤2000000 then cond (eK x0.f0)
    (some (false))
    (some (false))else none else none)
theorem P1 {q0:Kd}(x0:GDag):Ans (uQ x0) (fun r=>Does E 34 [.agg (GDag.t .far q0 x0)] [T3 r]):=by
 unfold uQ;apply TW<;>intro f1
 ·refine TY (fun f2 => ?_);refine TY (fun f3 => ?_);apply TW<;>intro f4
  ·apply TW<;>intro a
   ·exact TT (DP Tryz.f34 [.ret [(true,GCron.t .own ((au x0.f1).1)),T3 true],.ret [T4 ((bi ((au x0.f1).1)).1),T3 ((bi ((au x0.f1).1)).2)],rT,.b true] (AD (fm x0.f1 f1)<|AD (fo ((au x0.f1).1) f2)<|AD (T1 (da x0.f0 f3) f4)<|AC a<|AN))
   ·apply TW<;>intro b
    ·apply TW<;>intro e
     ·apply TW<;>intro g
      ·refine TY (fun h => ?_);refine TX (fun y f => ?_);replace f:=Oe (q0:=q0) x0.f0 x0.f1 x0.f2 x0.f3 x0.f5 x0.f5 0 x0.f4 rfl h y f;cases y with
       |ret c =>
        have d:=f
        (try rw[f1]at d);exact TT (DP Tryz.f34 [.ret [(true,GCron.t .own ((au x0.f1).1)),T3 true],.ret [T4 ((bi ((au x0.f1).1)).1),T3 ((bi ((au x0.f1).1)).2)],rT,.b false,rT,rT,T8 (x0.f5.length:Int),rT,.lp .ret (sf q0 c)] (AD (fm x0.f1 f1)<|AD (fo ((au x0.f1).1) f2)<|AD (T1 (da x0.f0 f3) f4)<|AC a<|AD (T1 (ag x0.f3 0 68374079) b)<|AD (T1 (ag x0.f2 0 x0.f3) e)<|ALn x0.f5 (GTask.t q0)<|AD (T1 (ag (x0.f5.length:Int) 1 4) g)<|AL d<|AN))
       |x0 =>
        have d:=f;refine TY (fun j => ?_);refine TY (fun i => ?_)
        (try rw[f1]at d);exact TT (DP Tryz.f34 [.ret [(true,GCron.t .own ((au x0.f1).1)),T3 true],.ret [T4 ((bi ((au x0.f1).1)).1),T3 ((bi ((au x0.f1).1)).2)],rT,.b false,rT,rT,T8 (x0.f5.length:Int),rT,.lp (.exit 0) (t6 q0 x0.f0 x0.f1 x0.f2 x0.f3 x0.f4 x0.f5),.ret [(false,[.s .own () 1 ((nB x0.f5).map etI)])],T8 ((nB x0.f5).length:Int),T8 (x0.f5.length:Int)] (AD (fm x0.f1 f1)<|AD (fo ((au x0.f1).1) f2)<|AD (T1 (da x0.f0 f3) f4)<|AC a<|AD (T1 (ag x0.f3 0 68374079) b)<|AD (T1 (ag x0.f2 0 x0.f3) e)<|ALn x0.f5 (GTask.t q0)<|AD (T1 (ag (x0.f5.length:Int) 1 4) g)<|AL d<|AV (ψ:=fun k=>E.C k 60 [.one (.s .far () 5 (x0.f5.map (GTask.t q0)))]=some [(false,[.s .own () 1 ((nB x0.f5).map etI)])]) (HU x0.f5 j i)<|ALn (nB x0.f5) etI<|ALn x0.f5 (GTask.t q0)<|AN))
      ·exact TT (DP Tryz.f34 [.ret [(true,GCron.t .own ((au x0.f1).1)),T3 true],.ret [T4 ((bi ((au x0.f1).1)).1),T3 ((bi ((au x0.f1).1)).2)],rT,.b false,rT,rT,T8 (x0.f5.length:Int),rF] (AD (fm x0.f1 f1)<|AD (fo ((au x0.f1).1) f2)<|AD (T1 (da x0.f0 f3) f4)<|AC a<|AD (T1 (ag x0.f3 0 68374079) b)<|AD (T1 (ag x0.f2 0 x0.f3) e)<|ALn x0.f5 (GTask.t q0)<|AD (T1 (ag (x0.f5.length:Int) 1 4) g)<|AN))
     ·exact TT (DP Tryz.f34 [.ret [(true,GCron.t .own ((au x0.f1).1)),T3 true],.ret [T4 ((bi ((au x0.f1).1)).1),T3 ((bi ((au x0.f1).1)).2)],rT,.b false,rT,rF] (AD (fm x0.f1 f1)<|AD (fo ((au x0.f1).1) f2)<|AD (T1 (da x0.f0 f3) f4)<|AC a<|AD (T1 (ag x0.f3 0 68374079) b)<|AD (T1 (ag x0.f2 0 x0.f3) e)<|AN))
    ·exact TT (DP Tryz.f34 [.ret [(true,GCron.t .own ((au x0.f1).1)),T3 true],.ret [T4 ((bi ((au x0.f1).1)).1),T3 ((bi ((au x0.f1).1)).2)],rT,.b false,rF] (AD (fm x0.f1 f1)<|AD (fo ((au x0.f1).1) f2)<|AD (T1 (da x0.f0 f3) f4)<|AC a<|AD (T1 (ag x0.f3 0 68374079) b)<|AN))
  ·exact TT (DP Tryz.f34 [.ret [(true,GCron.t .own ((au x0.f1).1)),T3 ((au x0.f1).2)],.ret [T4 ((bi ((au x0.f1).1)).1),T3 ((bi ((au x0.f1).1)).2)],rF] (AD (rJ x0.f1)<|AD (fo ((au x0.f1).1) f2)<|AD (T1 (da x0.f0 f3) f4)<|AN))
 ·refine TY (fun f5 => ?_);refine TY (fun f6 => ?_);apply TW<;>intro f7
  ·exact TT (DP Tryz.f34 [.ret [(true,GCron.t .own ((au x0.f1).1)),T3 false],.ret [T4 ((bi ((au x0.f1).1)).1),T3 ((bi ((au x0.f1).1)).2)],rT] (AD (fm x0.f1 f1)<|AD (fo ((au x0.f1).1) f5)<|AD (T1 (da x0.f0 f6) f7)<|AN))
  ·exact TT (DP Tryz.f34 [.ret [(true,GCron.t .own ((au x0.f1).1)),T3 ((au x0.f1).2)],.ret [T4 ((bi ((au x0.f1).1)).1),T3 ((bi ((au x0.f1).1)).2)],rF] (AD (rJ x0.f1)<|AD (fo ((au x0.f1).1) f5)<|AD (T1 (da x0.f0 f6) f7)<|AN))
inductive CY where|ret (v2:Bool)|x2
def my (q0:Kd)(a b:ByteArray)(c d:Int)(e:Bool)(f g:List GTask)(h i:Int)(v59:List ByteArray)(j k:Int):US:=stL 78 [(1,.box () [tS a,tS b,tI c,tI d,tB e,.s .far () 5 (f.map (GTask.t q0))]),(40,.one (.s .far () 5 (g.map (GTask.t q0)))),(41,T5 h),(42,T5 i),(59,.one (.s .far () 1 (v59.map etS))),(60,T5 j),(61,T5 k)]
def rO (q0:Kd)(a:Bool):US:=stL 78 [(2,T6 a)]
def tG (q0:Kd)(a b:ByteArray)(c d:Int)(e:Bool)(f g:List GTask)(h i:Int):US:=stL 78 [(1,.box () [tS a,tS b,tI c,tI d,tB e,.s .far () 5 (f.map (GTask.t q0))]),(40,.one (.s .far () 5 (g.map (GTask.t q0)))),(41,T5 h),(42,T5 i)]
abbrev w6:US→Exit→US→Prop:=Round E 45 (am Tryz.f45 1)
def Ny {q0:Kd}(a b:ByteArray)(c d:Int)(e:Bool)(f g:List GTask)(h i:Int)(v59:List ByteArray)(j k:Int):CY→Prop| .ret l=>Loops E 45 (am Tryz.f45 1) (my q0 a b c d e f g h i v59 j k) .ret (rO q0 l)| .x2=>Loops E 45 (am Tryz.f45 1) (my q0 a b c d e f g h i v59 j k) (.exit 2) (tG q0 a b c d e f g h i)
noncomputable def kJ (b c:ByteArray)(d e:Int)(f:List GTask):List ByteArray→Nat→Bool→Option CY|[],i,a=>some (.x2)|hd::rest,i,a=>if(GDag.mk b c d e a f).f5.length≤1050000 then cond (decide ((bR (GDag.mk b c d e a f) hd)<(0:Int))) (some (.ret false)) (kJ b c d e f rest (i+1) a)else none
theorem Nw {q0:Kd}(b c:ByteArray)(d e:Int)(f g:List GTask)(j l:Int)(v59:List ByteArray)(rest:List ByteArray):∀(i:Nat)(a:Bool),(v59).drop i=rest→v59.length≤9223372036854775807→Ans (kJ b c d e f rest i a) (Ny (q0:=q0) b c d e a f g j l v59 (v59.length:Int) (i:Int)):=by
 induction rest with
 |nil =>intro i a m n;have hb:=aI m;unfold kJ;exact TT (TV (show w6 (my q0 b c d e a f g j l v59 (v59.length:Int) (i:Int)) (.exit 2) (tG q0 b c d e a f g j l)from RP [.b false] (AC hb<|AN)) (by intro h;cases h))
 |cons hd rest u =>
  intro i a m n;have hb:=aC m;have v:=aD m n;have o:=aq m;have p:=aB m;unfold kJ;refine TY (fun q => ?_);apply TW<;>intro s
  ·exact TT (TV (show w6 (my q0 b c d e a f g j l v59 (v59.length:Int) (i:Int)) .ret (rO q0 false)from RP [.b true,.row (etS hd),.ret [T2 (bR (GDag.mk b c d e a f) hd)],.b true] (AC hb<|AR etS p<|AV (ψ:=fun k=>E.C k 69 [.agg (GDag.t .far q0 (GDag.mk b c d e a f)),T7 hd]=some [T2 (bR (GDag.mk b c d e a f) hd)]) (gk (GDag.mk b c d e a f) hd q)<|AC s<|AN)) (by intro h;cases h))
  ·exact(u (i+1) a o n).mono fun y w=>by have r:w6 (my q0 b c d e a f g j l v59 (v59.length:Int) (i:Int)) .normal (my q0 b c d e a f g j l v59 (v59.length:Int) (inc (i:Int))):=RP [.b true,.row (etS hd),.ret [T2 (bR (GDag.mk b c d e a f) hd)],.b false] (AC hb<|AR etS p<|AV (ψ:=fun k=>E.C k 69 [.agg (GDag.t .far q0 (GDag.mk b c d e a f)),T7 hd]=some [T2 (bR (GDag.mk b c d e a f) hd)]) (gk (GDag.mk b c d e a f) hd q)<|AC s<|AN);rw[v]at r;cases y<;>exact TU r w
inductive CX where|ret (v2:Bool)|x0
def jH (q0:Kd)(a b:ByteArray)(c d:Int)(e:Bool)(f g:List GTask)(h i:Int):US:=stL 78 [(1,.box () [tS a,tS b,tI c,tI d,tB e,.s .far () 5 (f.map (GTask.t q0))]),(40,.one (.s .far () 5 (g.map (GTask.t q0)))),(41,T5 h),(42,T5 i)]
def k7 (q0:Kd)(a:Bool):US:=stL 78 [(2,T6 a)]
def tF (q0:Kd)(a b:ByteArray)(c d:Int)(e:Bool)(f:List GTask):US:=stL 78 [(1,.box () [tS a,tS b,tI c,tI d,tB e,.s .far () 5 (f.map (GTask.t q0))])]
abbrev pk:US→Exit→US→Prop:=Round E 45 (am Tryz.f45 0)
def Nx {q0:Kd}(a b:ByteArray)(c d:Int)(e:Bool)(f g:List GTask)(h i:Int):CX→Prop| .ret j=>Loops E 45 (am Tryz.f45 0) (jH q0 a b c d e f g h i) .ret (k7 q0 j)| .x0=>Loops E 45 (am Tryz.f45 0) (jH q0 a b c d e f g h i) (.exit 0) (tF q0 a b c d e f)
noncomputable def kI (b c:ByteArray)(d e:Int)(f:List GTask):List GTask→Nat→Bool→Option CX
 |[],i,a=>some (.x0)
 |hd::rest,i,a=>if ac.sm hd then cond (ui hd)
  (if(GDag.mk b c d e a f).f5.length≤1050000 then cond ((bR (GDag.mk b c d e a f) hd.f0) != (i:Int))
   (some (.ret false))
   (if hd.f4.length≤9223372036854775807 then(kJ b c d e f hd.f4 0 a).bind fun y=>match y with
    | .ret g=>(some (.ret g))
    | .x2=>(kI b c d e f rest (i+1) a)else none)else none)
  (some (.ret false))else none
theorem Nv {q0:Kd}(b c:ByteArray)(d e:Int)(f g:List GTask)(rest:List GTask):∀(i:Nat)(a:Bool),(g).drop i=rest→g.length≤9223372036854775807→Ans (kI b c d e f rest i a) (Nx (q0:=q0) b c d e a f g (g.length:Int) (i:Int)):=by
 induction rest with
 |nil =>intro i a l q;have hb:=aI l;unfold kI;exact TT (TV (show pk (jH q0 b c d e a f g (g.length:Int) (i:Int)) (.exit 0) (tF q0 b c d e a f)from RP [.b false] (AC hb<|AN)) (by intro h;cases h))
 |cons hd rest z =>
  intro i a l q;have hb:=aC l;have A:=aD l q;have s:=aq l;have n:=aB l;unfold kI;refine TY (fun o => ?_);apply TW<;>intro p
  ·refine TY (fun u => ?_);apply TW<;>intro v
   ·exact TT (TV (show pk (jH q0 b c d e a f g (g.length:Int) (i:Int)) .ret (k7 q0 false)from RP [.b true,.row ((GTask.t q0) hd),rT,.ret [T2 (bR (GDag.mk b c d e a f) hd.f0)],.b true] (AC hb<|AR (GTask.t q0) n<|AD (T1 (sD hd o) p)<|AV (ψ:=fun k=>E.C k 69 [.agg (GDag.t .far q0 (GDag.mk b c d e a f)),T7 hd.f0]=some [T2 (bR (GDag.mk b c d e a f) hd.f0)]) (gk (GDag.mk b c d e a f) hd.f0 u)<|AC v<|AN)) (by intro h;cases h))
   ·refine TY (fun w => ?_);refine TX (fun y m => ?_);replace m:=Nw (q0:=q0) b c d e f g (g.length:Int) (i:Int) hd.f4 hd.f4 0 a rfl w y m;cases y with
    |ret j =>have x:=m;exact TT (TV (show pk (jH q0 b c d e a f g (g.length:Int) (i:Int)) .ret (k7 q0 j)from RP [.b true,.row ((GTask.t q0) hd),rT,.ret [T2 (bR (GDag.mk b c d e a f) hd.f0)],.b false,T8 (hd.f4.length:Int),.lp .ret (rO q0 j)] (AC hb<|AR (GTask.t q0) n<|AD (T1 (sD hd o) p)<|AV (ψ:=fun k=>E.C k 69 [.agg (GDag.t .far q0 (GDag.mk b c d e a f)),T7 hd.f0]=some [T2 (bR (GDag.mk b c d e a f) hd.f0)]) (gk (GDag.mk b c d e a f) hd.f0 u)<|AC v<|ALn hd.f4 etS<|AL x<|AN)) (by intro h;cases h))
    |x2 =>have x:=m;exact(z (i+1) a s q).mono fun y m=>by have r:pk (jH q0 b c d e a f g (g.length:Int) (i:Int)) .normal (jH q0 b c d e a f g (g.length:Int) (inc (i:Int))):=RP [.b true,.row ((GTask.t q0) hd),rT,.ret [T2 (bR (GDag.mk b c d e a f) hd.f0)],.b false,T8 (hd.f4.length:Int),.lp (.exit 2) (tG q0 b c d e a f g (g.length:Int) (i:Int))] (AC hb<|AR (GTask.t q0) n<|AD (T1 (sD hd o) p)<|AV (ψ:=fun k=>E.C k 69 [.agg (GDag.t .far q0 (GDag.mk b c d e a f)),T7 hd.f0]=some [T2 (bR (GDag.mk b c d e a f) hd.f0)]) (gk (GDag.mk b c d e a f) hd.f0 u)<|AC v<|ALn hd.f4 etS<|AL x<|AN);rw[A]at r;cases y<;>exact TU r m
  ·exact TT (TV (show pk (jH q0 b c d e a f g (g.length:Int) (i:Int)) .ret (k7 q0 false)from RP [.b true,.row ((GTask.t q0) hd),rF] (AC hb<|AR (GTask.t q0) n<|AD (T1 (sD hd o) p)<|AN)) (by intro h;cases h))
noncomputable def uB (x0:GDag):Option (Bool):=
  if x0.f0.size≤2000000 then cond (eK x0.f0)
   (cond (kG x0.f1)
    (cond (decide (x0.f2<(0:Int)))
     (some (false))
     (cond (decide (x0.f2>x0.f3))
      (some (false))
      (cond (decide (x0.f3>(68374079:Int)))
       (some (false))
       (cond (ae (x0.f5.length:Int) 1 4)
        (if x0.f5.length≤9223372036854775807 then(kI x0.f0 x0.f1 x0.f2 x0.f3 x0.f5 x0.f5 0 x0.f4).bind fun y=>match y with
         | .ret a=>(some (a))
         | .x0=>(if ac.sm x0 then if fK x0.f5 then some (((qD x0).length:Int)==(x0.f5.length:Int))else none else none)else none)
        (some (false))))))
    (some (false)))
   (some (false))else none
theorem Pk {q0:Kd}(x0:GDag):Ans (uB x0) (fun r=>Does E 45 [.agg (GDag.t .far q0 x0)] [T3 r]):=by
 unfold uB;refine TY (fun a => ?_);apply TW<;>intro b
 ·apply TW<;>intro c
  ·apply TW<;>intro d
   ·exact TT (DP Tryz.f45 [rT,rT,.b true] (AD (T1 (dC x0.f0 a) b)<|AD (T1 (kF x0.f1) c)<|AC d<|AN))
   ·apply TW<;>intro e
    ·exact TT (DP Tryz.f45 [rT,rT,.b false,.b true] (AD (T1 (dC x0.f0 a) b)<|AD (T1 (kF x0.f1) c)<|AC d<|AC e<|AN))
    ·apply TW<;>intro g
     ·exact TT (DP Tryz.f45 [rT,rT,.b false,.b false,.b true] (AD (T1 (dC x0.f0 a) b)<|AD (T1 (kF x0.f1) c)<|AC d<|AC e<|AC g<|AN))
     ·apply TW<;>intro i
      ·refine TY (fun j => ?_);refine TX (fun y h => ?_);replace h:=Nv (q0:=q0) x0.f0 x0.f1 x0.f2 x0.f3 x0.f5 x0.f5 x0.f5 0 x0.f4 rfl j y h;cases y with
       |ret f =>have l:=h;exact TT (DP Tryz.f45 [rT,rT,.b false,.b false,.b false,T8 (x0.f5.length:Int),rT,T8 (x0.f5.length:Int),.lp .ret (k7 q0 f)] (AD (T1 (dC x0.f0 a) b)<|AD (T1 (kF x0.f1) c)<|AC d<|AC e<|AC g<|ALn x0.f5 (GTask.t q0)<|AD (T1 (an (x0.f5.length:Int) 1 4) i)<|ALn x0.f5 (GTask.t q0)<|AL l<|AN))
       |x0 =>have l:=h;refine TY (fun m => ?_);refine TY (fun n => ?_);exact TT (DP Tryz.f45 [rT,rT,.b false,.b false,.b false,T8 (x0.f5.length:Int),rT,T8 (x0.f5.length:Int),.lp (.exit 0) (tF q0 x0.f0 x0.f1 x0.f2 x0.f3 x0.f4 x0.f5),.ret [(false,[.s .own () 1 ((qD x0).map etI)])],T8 ((qD x0).length:Int),T8 (x0.f5.length:Int)] (AD (T1 (dC x0.f0 a) b)<|AD (T1 (kF x0.f1) c)<|AC d<|AC e<|AC g<|ALn x0.f5 (GTask.t q0)<|AD (T1 (an (x0.f5.length:Int) 1 4) i)<|ALn x0.f5 (GTask.t q0)<|AL l<|AV (ψ:=fun k=>E.C k 70 [.agg (GDag.t .far q0 x0)]=some [(false,[.s .own () 1 ((qD x0).map etI)])]) (Kz x0 m n)<|ALn (qD x0) etI<|ALn x0.f5 (GTask.t q0)<|AN))
      ·exact TT (DP Tryz.f45 [rT,rT,.b false,.b false,.b false,T8 (x0.f5.length:Int),rF] (AD (T1 (dC x0.f0 a) b)<|AD (T1 (kF x0.f1) c)<|AC d<|AC e<|AC g<|ALn x0.f5 (GTask.t q0)<|AD (T1 (an (x0.f5.length:Int) 1 4) i)<|AN))
  ·exact TT (DP Tryz.f45 [rT,rF] (AD (T1 (dC x0.f0 a) b)<|AD (T1 (kF x0.f1) c)<|AN))
 ·exact TT (DP Tryz.f45 [rF] (AD (T1 (dC x0.f0 a) b)<|AN))
noncomputable def eC (ts:List GTask):List GTask→Nat→Bool|[],_=>true|t::r,i=>jh ts (i:Int) t&&eC ts r (i+1)
noncomputable def aO (d:GDag):Bool :=eK d.f0&&(kG d.f1&&(ae d.f3 0 68374079&&(ae d.f2 0 d.f3&&(ae (d.f5.length:Int) 1 4&&(eC d.f5 d.f5 0&&((nB d.f5).length:Int)==(d.f5.length:Int))))))
theorem sT (ts:List GTask):∀(rest:List GTask)(i:Nat),ts.drop i=rest→eC ts rest i=true→∀(k:Nat)(t:GTask),i≤k→ts[k]?=some t→jh ts (k:Int) t=true
 |[],i,h,_,k,t,c,a=>by have:ts.length≤i:=List.drop_eq_nil_iff.1 h;rw[Uh (by omega)]at a;cases a
 |x::rest,i,h,b,k,t,c,a=>by
  unfold eC at b;rw[Ux]at b;by_cases e:k=i
  ·subst e;have:ts[k]?=some x:=by rw[←Wz,h];rfl
   rw[this]at a;cases a;exact b.1
  ·exact sT ts rest (i+1) (aq h) b.2 k t (by omega) a
theorem wZ {ts:List GTask}(a:ts.length≤4)(h:eC ts ts 0=true):fK ts:=by refine⟨a,fun i t b => ?_⟩;have:=sT ts ts 0 rfl h i t (Wq _) b;unfold jh at this;simp only[Ux,V6]at this;exact this.2.1
theorem OU (ts:List GTask)(hs:ac.sm ts):∀(rest:List GTask)(i:Nat)(z:Bool),ts.drop i=rest→kS ts rest i z=some (cond (eC ts rest i) .x0 (.ret false))
 |[],i,z,_=>rfl
 |x::rest,i,z,h=>by
  have hi:=l3 h;have a:=aB h;have e:oO ts (i:Int)=jh ts (i:Int) x:=by unfold oO;rw[a]
  unfold kS eC;rw[OU ts hs rest (i+1) z (aq h),Ub hs,Ub (by omega),e];cases jh ts (i:Int) x<;>rfl
theorem SH (d:GDag)(h:ac.sm d):uQ d=some (aO d):=by
 have hs:ac.sm d.f5:=h.2.2;have a:d.f0.size≤2000000:=by have:d.f0.size≤1050000:=h.1;omega
 unfold uQ aO kG;simp only[a,Jw,UP];cases(au d.f1).2 with
 |false=>cases eK d.f0<;>rfl
 |true =>
  rw[Uo];cases eK d.f0 with
  |false=>rfl
  |true =>
   rw[Uo,UJ,UJ];cases(bi (au d.f1).1).1.toList==d.f1.toList with
   |false=>rfl
   |true =>
    rw[Vg,Uu,UJ];cases ae d.f3 0 68374079 with
    |false=>rfl
    |true =>
     rw[Uo,UJ];cases ae d.f2 0 d.f3 with
     |false=>rfl
     |true =>
      rw[Uo,UJ];cases q:ae (d.f5.length:Int) 1 4 with
      |false=>rfl
      |true =>
       have b:d.f5.length≤4:=by unfold ae at q;simp at q;omega
       rw[Uo,UJ,Ub (by omega),OU d.f5 hs d.f5 0 d.f4 rfl];cases w:eC d.f5 d.f5 0 with
       |false=>rfl
       |true =>rw[Uo,Ua,UJ];simp only;rw[Ub hs,Ub (wZ b w)]
theorem OT (a b:ByteArray)(c e:Int)(ts:List GTask)(d:ts.length≤1050000):∀(l:List ByteArray)(i:Nat)(z:Bool),kJ a b c e ts l i z=some (cond (l.all fun n=>decide (0≤ar ts n)) .x2 (.ret false))
 |[],i,z=>rfl
 |n::l,i,z=>by
  unfold kJ;rw[Ub (show(GDag.mk a b c e z ts).f5.length≤1050000 from d),OT a b c e ts d l (i+1) z,Vl];show cond (decide (ar ts n<0)) _ _=_;by_cases w:ar ts n<0
  ·rw[Uj w,Uk (by omega:¬ 0≤ar ts n)];rfl
  ·rw[Uk w,Uj (by omega:0≤ar ts n)];rfl
theorem OS (a b:ByteArray)(c e:Int)(ts:List GTask)(hs:ac.sm ts)(d:ts.length≤4):∀(l:List GTask)(i:Nat)(z:Bool),(∀y∈l,ac.sm y)→kI a b c e ts l i z=some (cond (eC ts l i) .x0 (.ret false))
 |[],i,z,_=>rfl
 |t::l,i,z,f=>by have g:=f t (by simp);have hf:t.f4.length≤1050000:=g.2.2.1;unfold kI eC;rw[Ub g,Ub (show(GDag.mk a b c e z ts).f5.length≤1050000 from hs.1),Ub (by omega),OT a b c e ts hs.1,OS a b c e ts hs d l (i+1) z (fun y h=>f y (by simp[h])),Ox ts d];have j:(bR (GDag.mk a b c e z ts) t.f0 != (i:Int))= !(ar ts t.f0==(i:Int)):=rfl;rw[j];cases ui t<;>cases ar ts t.f0==(i:Int)<;>cases(t.f4.all fun n=>decide (0≤ar ts n))<;>cases eC ts l (i+1)<;>rfl
theorem SG (d:GDag)(h:ac.sm d):uB d=some (aO d):=by
 have hs:ac.sm d.f5:=h.2.2;have e:d.f0.size≤2000000:=by have:d.f0.size≤1050000:=h.1;omega
 unfold uB aO;rw[Ub e];cases eK d.f0 with
 |false=>rfl
 |true =>
  rw[Uo,UJ];cases kG d.f1 with
  |false=>rfl
  |true =>
   rw[Uo,UJ];by_cases w0:d.f2<0
   ·have:ae d.f2 0 d.f3=false:=by unfold ae;rw[Uk (by omega)];rfl
    rw[Uj w0,this,Wv,VR];rfl
   ·rw[Uk w0,Uu];by_cases a:d.f2>d.f3
    ·have:ae d.f2 0 d.f3=false:=by unfold ae;rw[Uk (by omega:¬d.f2≤d.f3),VR]
     rw[Uj a,this,Wv,VR];rfl
    ·rw[Uk a,Uu];have f:ae d.f2 0 d.f3=true:=by unfold ae;rw[Uj (by omega),Uj (by omega)];rfl
     by_cases b:d.f3>68374079
     ·have:ae d.f3 0 68374079=false:=by unfold ae;rw[Uk (by omega:¬d.f3≤68374079),VR]
      rw[Uj b,this,Wv];rfl
     ·have g:ae d.f3 0 68374079=true:=by unfold ae;rw[Uj (by omega),Uj (by omega)];rfl
      rw[Uk b,Uu,f,g,UJ,UJ];cases q:ae (d.f5.length:Int) 1 4 with
      |false=>rfl
      |true =>
       have c:d.f5.length≤4:=by unfold ae at q;simp at q;omega
       rw[Uo,UJ,Ub (by omega),OS d.f0 d.f1 d.f2 d.f3 d.f5 hs c d.f5 0 d.f4 hs.2];cases w:eC d.f5 d.f5 0 with
       |false=>rfl
       |true =>rw[Uo,Ua,UJ];simp only;rw[Ub h,Ub (wZ c w)];rfl
theorem iw {q0:Kd}(x0:GDag)(h:ac.sm x0):Does E 34 [.agg (GDag.t .far q0 x0)] [T3 (aO x0)]:=by exact P1 x0 _ (SH x0 h)
theorem oz {q0:Kd}(x0:GDag)(h:ac.sm x0):Does E 45 [.agg (GDag.t .far q0 x0)] [T3 (aO x0)]:=by exact Pk x0 _ (SG x0 h)
end
end Go.Proofs.YtoanlngmbcnglaaGreatDoor.Am
