/- Plans. -/
import Derived.Test.YtjikhkndmohepaaGreatDoorRules
namespace Go.Proofs.YtjikhkndmohepaaGreatDoor.Am
open Go
set_option linter.unusedVariables false
set_option linter.unusedSimpArgs false
section
open Go.Proofs Classical
set_option maxRecDepth 100000
inductive Cw where|ret (v2:Bool)|x0
def dO (v0:Y9)(v3:Int):US:=stL 46 [(0,V4 v0),(3,V2 v3)]
def jq (a:Bool):US:=stL 46 [(2,V3 a)]
def tc  : US:=stL 46 []
abbrev jc:US→Exit→US→Prop:=Round E 87 (an Tryz.f87 0)
def Na (v0:Y9)(v3:Int):Cw→Prop| .ret a=>Loops E 87 (an Tryz.f87 0) (dO v0 v3) .ret (jq a)| .x0=>Loops E 87 (an Tryz.f87 0) (dO v0 v3) (.exit 0) (tc)
noncomputable def gT  : List Int→Nat→Option Cw|[],i=>some (.x0)|hd::rest,i=>cond (decide (hd<(97:Int))) (cond (decide (hd<(48:Int))) (some (.ret false)) (cond (decide (hd>(57:Int))) (some (.ret false)) (gT rest (i+1)))) (cond (decide (hd>(122:Int))) (cond (decide (hd<(48:Int))) (some (.ret false)) (cond (decide (hd>(57:Int))) (some (.ret false)) (gT rest (i+1)))) (gT rest (i+1)))
theorem M9 (v0:Y9)(rest:List Int):∀(i:Nat) ,(cn v0).drop i=rest→v0.size≤9223372036854775807→Ans (gT rest i) (Na v0 (i:Int)):=by
 induction rest with
 |nil =>intro i c g;have hb:=uy c;unfold gT;exact Vz (VB (show jc (dO v0 (i:Int)) (.exit 0) (tc)from RP [.b false] (AC hb<|AN)) (by intro h;cases h))
 |cons hd rest k =>
  intro i c g;have hb:=sv c;have l:=sA c g;have d:=au c;have a:=wX c;obtain rfl:=wW c;unfold gT;apply VC<;>intro e
  ·apply VC<;>intro b
   ·exact Vz (VB (show jc (dO v0 (i:Int)) .ret (jq false)from RP [.b true,.b true,.b true] (AC hb<|AC a<|AC e<|AC a<|AC b<|AN)) (by intro h;cases h))
   ·apply VC<;>intro f
    ·exact Vz (VB (show jc (dO v0 (i:Int)) .ret (jq false)from RP [.b true,.b true,.b false,.b true] (AC hb<|AC a<|AC e<|AC a<|AC b<|AC a<|AC f<|AN)) (by intro h;cases h))
    ·exact(k (i+1) d g).mono fun y j=>by have r:jc (dO v0 (i:Int)) .normal (dO v0 (inc (i:Int))):=RP [.b true,.b true,.b false,.b false] (AC hb<|AC a<|AC e<|AC a<|AC b<|AC a<|AC f<|AN);rw[l]at r;cases y<;>exact VA r j
  ·apply VC<;>intro b
   ·apply VC<;>intro f
    ·exact Vz (VB (show jc (dO v0 (i:Int)) .ret (jq false)from RP [.b true,.b false,.b true,.b true] (AC hb<|AC a<|AC e<|AC a<|AC b<|AC a<|AC f<|AN)) (by intro h;cases h))
    ·apply VC<;>intro m
     ·exact Vz (VB (show jc (dO v0 (i:Int)) .ret (jq false)from RP [.b true,.b false,.b true,.b false,.b true] (AC hb<|AC a<|AC e<|AC a<|AC b<|AC a<|AC f<|AC a<|AC m<|AN)) (by intro h;cases h))
     ·exact(k (i+1) d g).mono fun y j=>by have r:jc (dO v0 (i:Int)) .normal (dO v0 (inc (i:Int))):=RP [.b true,.b false,.b true,.b false,.b false] (AC hb<|AC a<|AC e<|AC a<|AC b<|AC a<|AC f<|AC a<|AC m<|AN);rw[l]at r;cases y<;>exact VA r j
   ·exact(k (i+1) d g).mono fun y j=>by have r:jc (dO v0 (i:Int)) .normal (dO v0 (inc (i:Int))):=RP [.b true,.b false,.b false] (AC hb<|AC a<|AC e<|AC a<|AC b<|AN);rw[l]at r;cases y<;>exact VA r j
noncomputable def tW (a:Y9):Option (Bool):=
  cond (ag (a.size:Int) 1 8)
   (if 0≤(0:Int)∧(0:Int)<(a.size:Int)then cond (decide ((iP a (0:Int))<(97:Int)))
    (some (false))
    (cond (decide ((iP a (0:Int))>(122:Int)))
     (some (false))
     (if a.size≤9223372036854775807 then(gT (cn a) 0).bind fun y=>match y with
      | .ret b=>(some (b))
      | .x0=>(some (true))else none))else none)
   (some (false))
theorem PQ (x0:Y9):Ans (tW x0) (fun r=>Does E 87 [V4 x0] [VY r]):=by
 unfold tW;apply VC<;>intro b
 ·apply VE;intro a;apply VC<;>intro d
  ·exact Vz (DP Tryz.f87 [rT,.b true] (AD (VH (ae (x0.size:Int) 1 8) b)<|AC a<|AC d<|AN))
  ·apply VC<;>intro f
   ·exact Vz (DP Tryz.f87 [rT,.b false,.b true] (AD (VH (ae (x0.size:Int) 1 8) b)<|AC a<|AC d<|AC a<|AC f<|AN))
   ·apply VE;intro g;apply VD;intro y e;replace e:=M9 x0 (cn x0) 0 rfl g y e;cases y with
    |ret c =>have h:=e;exact Vz (DP Tryz.f87 [rT,.b false,.b false,.lp .ret (jq c)] (AD (VH (ae (x0.size:Int) 1 8) b)<|AC a<|AC d<|AC a<|AC f<|AL h<|AN))
    |x0 =>have h:=e;exact Vz (DP Tryz.f87 [rT,.b false,.b false,.lp (.exit 0) (tc)] (AD (VH (ae (x0.size:Int) 1 8) b)<|AC a<|AC d<|AC a<|AC f<|AL h<|AN))
 ·exact Vz (DP Tryz.f87 [rF] (AD (VH (ae (x0.size:Int) 1 8) b)<|AN))
inductive B7 where|ret (v2:Bool)|x0
def cP (v0:Y9)(v3:Int):US:=stL 42 [(0,V4 v0),(3,V2 v3)]
def fE (a:Bool):US:=stL 42 [(2,V3 a)]
def sN (v0:Y9):US:=stL 42 [(0,V4 v0)]
abbrev fI:US→Exit→US→Prop:=Round E 93 (an Tryz.f93 0)
def Ml (v0:Y9)(v3:Int):B7→Prop| .ret a=>Loops E 93 (an Tryz.f93 0) (cP v0 v3) .ret (fE a)| .x0=>Loops E 93 (an Tryz.f93 0) (cP v0 v3) (.exit 0) (sN v0)
noncomputable def fJ  : List Int→Nat→Option B7|[],i=>some (.x0)|hd::rest,i=>cond (decide (hd≥(97:Int))) (cond (decide (hd≤(122:Int))) (fJ rest (i+1)) (cond ((i:Int)==(0:Int)) (some (.ret false)) (cond (decide (hd<(48:Int))) (some (.ret false)) (cond (decide (hd>(57:Int))) (some (.ret false)) (fJ rest (i+1)))))) (cond ((i:Int)==(0:Int)) (some (.ret false)) (cond (decide (hd<(48:Int))) (some (.ret false)) (cond (decide (hd>(57:Int))) (some (.ret false)) (fJ rest (i+1)))))
theorem Mj (v0:Y9)(rest:List Int):∀(i:Nat) ,(cn v0).drop i=rest→v0.size≤9223372036854775807→Ans (fJ rest i) (Ml v0 (i:Int)):=by
 induction rest with
 |nil =>intro i e j;have hb:=uy e;unfold fJ;exact Vz (VB (show fI (cP v0 (i:Int)) (.exit 0) (sN v0)from RP [.b false] (AC hb<|AN)) (by intro h;cases h))
 |cons hd rest l =>
  intro i e j;have hb:=sv e;have m:=sA e j;have f:=au e;have a:=wX e;obtain rfl:=wW e;unfold fJ;apply VC<;>intro c
  ·apply VC<;>intro b
   ·exact(l (i+1) f j).mono fun y k=>by have r:fI (cP v0 (i:Int)) .normal (cP v0 (inc (i:Int))):=RP [.b true,.b true,.b true] (AC hb<|AC a<|AC c<|AC a<|AC b<|AN);rw[m]at r;cases y<;>exact VA r k
   ·apply VC<;>intro d
    ·exact Vz (VB (show fI (cP v0 (i:Int)) .ret (fE false)from RP [.b true,.b true,.b false,.b true] (AC hb<|AC a<|AC c<|AC a<|AC b<|AC d<|AN)) (by intro h;cases h))
    ·apply VC<;>intro g
     ·exact Vz (VB (show fI (cP v0 (i:Int)) .ret (fE false)from RP [.b true,.b true,.b false,.b false,.b true] (AC hb<|AC a<|AC c<|AC a<|AC b<|AC d<|AC a<|AC g<|AN)) (by intro h;cases h))
     ·apply VC<;>intro n
      ·exact Vz (VB (show fI (cP v0 (i:Int)) .ret (fE false)from RP [.b true,.b true,.b false,.b false,.b false,.b true] (AC hb<|AC a<|AC c<|AC a<|AC b<|AC d<|AC a<|AC g<|AC a<|AC n<|AN)) (by intro h;cases h))
      ·exact(l (i+1) f j).mono fun y k=>by have r:fI (cP v0 (i:Int)) .normal (cP v0 (inc (i:Int))):=RP [.b true,.b true,.b false,.b false,.b false,.b false] (AC hb<|AC a<|AC c<|AC a<|AC b<|AC d<|AC a<|AC g<|AC a<|AC n<|AN);rw[m]at r;cases y<;>exact VA r k
  ·apply VC<;>intro b
   ·exact Vz (VB (show fI (cP v0 (i:Int)) .ret (fE false)from RP [.b true,.b false,.b true] (AC hb<|AC a<|AC c<|AC b<|AN)) (by intro h;cases h))
   ·apply VC<;>intro d
    ·exact Vz (VB (show fI (cP v0 (i:Int)) .ret (fE false)from RP [.b true,.b false,.b false,.b true] (AC hb<|AC a<|AC c<|AC b<|AC a<|AC d<|AN)) (by intro h;cases h))
    ·apply VC<;>intro g
     ·exact Vz (VB (show fI (cP v0 (i:Int)) .ret (fE false)from RP [.b true,.b false,.b false,.b false,.b true] (AC hb<|AC a<|AC c<|AC b<|AC a<|AC d<|AC a<|AC g<|AN)) (by intro h;cases h))
     ·exact(l (i+1) f j).mono fun y k=>by have r:fI (cP v0 (i:Int)) .normal (cP v0 (inc (i:Int))):=RP [.b true,.b false,.b false,.b false,.b false] (AC hb<|AC a<|AC c<|AC b<|AC a<|AC d<|AC a<|AC g<|AN);rw[m]at r;cases y<;>exact VA r k
noncomputable def tH (b:Y9):Option (Bool):=
  if b.size≤9223372036854775807 then(fJ (cn b) 0).bind fun y=>match y with
   | .ret a=>(some (a))
   | .x0=>(some (ag (b.size:Int) 1 8))else none
theorem O0 (x0:Y9):Ans (tH x0) (fun r=>Does E 93 [V4 x0] [VY r]):=by
 unfold tH;apply VE;intro c;apply VD;intro y b;replace b:=Mj x0 (cn x0) 0 rfl c y b;cases y with
 |ret a =>have d:=b;exact Vz (DP Tryz.f93 [.lp .ret (fE a)] (AL d<|AN))
 |x0 =>have d:=b;exact Vz (DP Tryz.f93 [.lp (.exit 0) (sN x0),.ret [VY (ag (x0.size:Int) 1 8)]] (AL d<|AD (ao (x0.size:Int) 1 (8:Int))<|AN))
def ww (h:Int):Bool:=decide (97≤h∧h≤122)
def lfI (h:Int):Bool:=decide (97≤h∧h≤122∨48≤h∧h≤57)
def S6:List Int→Bool|[]=>true|h::l=>ww h&&l.all lfI
def fe (s:Y9):Bool:=ag (s.size:Int) 1 8&&S6 (cn s)
theorem T2 {α:Type}(h:Int)(A B:α):cond (decide (h<97)) (cond (decide (h<48)) A (cond (decide (h>57)) A B)) (cond (decide (h>122)) (cond (decide (h<48)) A (cond (decide (h>57)) A B)) B)=cond (lfI h) B A:=by
 unfold lfI;simp only[Yy];repeat' split
 all_goals first|rfl|(exfalso;omega)
theorem Tv {α:Type}(h:Int)(A B:α):cond (decide (h≥97)) (cond (decide (h≤122)) B (cond (decide (h<48)) A (cond (decide (h>57)) A B))) (cond (decide (h<48)) A (cond (decide (h>57)) A B))=cond (lfI h) B A:=by
 unfold lfI;simp only[Yy];repeat' split
 all_goals first|rfl|(exfalso;omega)
theorem Tu {α:Type}(h:Int)(A B:α):cond (decide (h≥97)) (cond (decide (h≤122)) B A) A=cond (ww h) B A:=by
 unfold ww;simp only[Yy];repeat' split
 all_goals first|rfl|(exfalso;omega)
theorem T1 {h:Int}(q:ww h=true):lfI h=true:=by unfold ww at q;unfold lfI;simp only[W3]at q ⊢;exact .inl q
theorem N1:∀(l:List Int)(i:Nat),gT l i=some (cond (l.all lfI) .x0 (.ret false))
 |[],i=>rfl
 |h::l,i=>by unfold gT;rw[N1 l (i+1),Xh,T2];cases lfI h<;>rfl
theorem N0:∀(l:List Int)(i:Nat),fJ l (i+1)=some (cond (l.all lfI) .x0 (.ret false))
 |[],i=>rfl
 |h::l,i=>by
  unfold fJ;have e:(((i+1:Nat):Int)==0)=false:=by rw[W5];omega
  rw[N0 l (i+1),Xh,e];simp only[Wu];rw[Tv];cases lfI h<;>rfl
theorem T5 (s:Y9)(hs:s.size≤2000000):tW s=some (fe s):=by
 unfold tW fe;cases q:ag (s.size:Int) 1 8 with
 |false=>rfl
 |true =>
  have c:1≤(s.size:Int)∧(s.size:Int)≤8:=by unfold ag at q;simpa using q
  rw[Wn,Wa (by omega),Wa (by omega),WJ,N1];have a:=wG s 0 (by omega);cases e:cn s with
  |nil=>rw[e]at a;cases a
  |cons h l =>
   rw[e]at a;have hb:h=iP s (0:Int):=X0 a;rw[←hb];show _=some (ww h&&l.all lfI);rw[Xh];have k:∀(X:Option Bool),cond (decide (h<97)) (some false) (cond (decide (h>122)) (some false) X)=cond (ww h) X (some false):=fun X=>by
    unfold ww;simp only[Yy];repeat' split
    all_goals first|rfl|(exfalso;omega)
   rw[k];cases b:ww h with
   |false=>rfl
   |true =>rw[T1 b];cases l.all lfI<;>rfl
theorem T4 (s:Y9)(hs:s.size≤2000000):tH s=some (fe s):=by
 unfold tH fe;rw[Wa (by omega)];cases e:cn s with
 |nil =>show some (ag (s.size:Int) 1 8)=some (ag (s.size:Int) 1 8&&true);rw[Bool.and_true]
 |cons h l =>
  unfold fJ S6;have a:(((0:Nat):Int)==0)=true:=rfl;rw[N0 l 0,a];simp only[Wn];rw[Tu];cases ww h with
  |false=>rw[Yl,XL];rfl
  |true =>
   rw[Wn,WJ,V9];cases l.all lfI with
   |false=>rw[XL];rfl
   |true=>rw[Bool.and_true];rfl
theorem dv (a:Y9)(h:a.size≤2000000):Does E 87 [V4 a] [VY (fe a)]:=by exact PQ a _ (T5 a h)
theorem dU (a:Y9)(h:a.size≤2000000):Does E 93 [V4 a] [VY (fe a)]:=by exact O0 a _ (T4 a h)
noncomputable def ge (a:Y9):Option (Int):=cond (a.toList==(⟨#[111,110,101]⟩:Y9).toList) (some (1)) (cond (a.toList==(⟨#[116,119,111]⟩:Y9).toList) (some (2)) (cond (a.toList==(⟨#[119,105,100,101]⟩:Y9).toList) (some (4)) (some (0))))
theorem K8 (c:Y9):Ans (ge c) (fun r=>Does E 35 [V4 c] [VX r]):=by
 unfold ge;apply VC<;>intro a
 ·exact Vz (DP Tryz.f35 [.b true] (AC a<|AN))
 ·apply VC<;>intro b
  ·exact Vz (DP Tryz.f35 [.b false,.b true] (AC a<|AC b<|AN))
  ·apply VC<;>intro d
   ·exact Vz (DP Tryz.f35 [.b false,.b false,.b true] (AC a<|AC b<|AC d<|AN))
   ·exact Vz (DP Tryz.f35 [.b false,.b false,.b false] (AC a<|AC b<|AC d<|AN))
noncomputable def Aq (a:Y9):Option (Int):=cond (a.toList==(⟨#[111,110,101]⟩:Y9).toList) (some (1)) (cond (a.toList==(⟨#[116,119,111]⟩:Y9).toList) (some (2)) (cond (a.toList==(⟨#[119,105,100,101]⟩:Y9).toList) (some (4)) (some (0))))
theorem J2 (c:Y9):Ans (Aq c) (fun r=>Does E 46 [V4 c] [VX r]):=by
 unfold Aq;apply VC<;>intro a
 ·exact Vz (DP Tryz.f46 [.b true] (AC a<|AN))
 ·apply VC<;>intro b
  ·exact Vz (DP Tryz.f46 [.b false,.b true] (AC a<|AC b<|AN))
  ·apply VC<;>intro d
   ·exact Vz (DP Tryz.f46 [.b false,.b false,.b true] (AC a<|AC b<|AC d<|AN))
   ·exact Vz (DP Tryz.f46 [.b false,.b false,.b false] (AC a<|AC b<|AC d<|AN))
noncomputable def aP (s:Y9):Int:=(ge s).getD 0
theorem KQ (s:Y9):ge s=some (aP s):=by refine Tot.getD ?_ _;unfold ge;repeat' (first|exact Tot.some _|apply Tot.cond)
theorem kE (a:Y9):Does E 35 [V4 a] [VX (aP a)]:=by exact K8 a _ (KQ a)
theorem fO (a:Y9):Does E 46 [V4 a] [VX (aP a)]:=by exact J2 a _ (KQ a)
inductive EK where|ret (v4:Int)|x0
def nF (q0:Kd)(v0:List GTask)(v1:Y9)(v5:Int):US:=stL 20 [(0,.one (V8 5 (v0.map (VQ q0)))),(1,V4 v1),(5,V2 v5)]
def tp (q0:Kd)(a:Int):US:=stL 20 [(4,V2 a)]
def uY (q0:Kd)  : US:=stL 20 []
abbrev yA:US→Exit→US→Prop:=Round E 61 (an Tryz.f61 0)
def PX {q0:Kd}(v0:List GTask)(v1:Y9)(v5:Int):EK→Prop| .ret a=>Loops E 61 (an Tryz.f61 0) (nF q0 v0 v1 v5) .ret (tp q0 a)| .x0=>Loops E 61 (an Tryz.f61 0) (nF q0 v0 v1 v5) (.exit 0) (uY q0)
noncomputable def lD (v1:Y9):List GTask→Nat→Option EK|[],i=>some (.x0)|hd::rest,i=>cond (hd.f0.toList==v1.toList) (some (.ret (i:Int))) (lD v1 rest (i+1))
theorem PW {q0:Kd}(v0:List GTask)(v1:Y9)(rest:List GTask):∀(i:Nat) ,(v0).drop i=rest→v0.length≤9223372036854775807→Ans (lD v1 rest i) (PX (q0:=q0) v0 v1 (i:Int)):=by
 induction rest with
 |nil =>intro i a b;have hb:=aK a;unfold lD;exact Vz (VB (show yA (nF q0 v0 v1 (i:Int)) (.exit 0) (uY q0)from RP [V5 (v0.length:Int),.b false] (ALn v0 (VQ q0)<|AC hb<|AN)) (by intro h;cases h))
 |cons hd rest f =>
  intro i a b;have hb:=aF a;have g:=aG a b;have c:=au a;have d:=aE a;unfold lD;apply VC<;>intro e
  ·exact Vz (VB (show yA (nF q0 v0 v1 (i:Int)) .ret (tp q0 (i:Int))from RP [V5 (v0.length:Int),.b true,.row ((VQ q0) hd),.b true] (ALn v0 (VQ q0)<|AC hb<|AR (VQ q0) d<|AC e<|AN)) (by intro h;cases h))
  ·exact(f (i+1) c b).mono fun y j=>by have r:yA (nF q0 v0 v1 (i:Int)) .normal (nF q0 v0 v1 (inc (i:Int))):=RP [V5 (v0.length:Int),.b true,.row ((VQ q0) hd),.b false] (ALn v0 (VQ q0)<|AC hb<|AR (VQ q0) d<|AC e<|AN);rw[g]at r;cases y<;>exact VA r j
noncomputable def Be (b:List GTask)(c:Y9):Option (Int):=
  if b.length≤9223372036854775807 then(lD c b 0).bind fun y=>match y with
   | .ret a=>(some (a))
   | .x0=>(some ((-1:Int)))else none
theorem RD {q0:Kd}(x0:List GTask)(c:Y9):Ans (Be x0 c) (fun r=>Does E 61 [.one (V8 5 (x0.map (VQ q0))),V4 c] [VX r]):=by
 unfold Be;apply VE;intro d;apply VD;intro y b;replace b:=PW (q0:=q0) x0 c x0 0 rfl d y b;cases y with
 |ret a =>have e:=b;exact Vz (DP Tryz.f61 [.lp .ret (tp q0 a)] (AL e<|AN))
 |x0 =>have e:=b;exact Vz (DP Tryz.f61 [.lp (.exit 0) (uY q0)] (AL e<|AN))
noncomputable def Ar (a:GTask)(b:Y9):Option (Bool):=some (a.f0.toList==b.toList)
theorem J3 (a:GTask)(b:Y9):Ans (Ar a b) (fun r=>Does E 102 [.agg (VQ .far a),.im .far () [tS b] 0] [VY r]):=by unfold Ar;exact Vz (DP Tryz.f102 [] AN)
def k9 (x:GTask)(n:Y9):Bool:=x.f0.toList==n.toList
def pI (n:Y9):List GTask→Nat→Int|[],_ => -1|t::r,i=>cond (k9 t n) (i:Int) (pI n r (i+1))
def aw (ts:List GTask)(n:Y9):Int:=pI n ts 0
theorem pJ (n:Y9):∀(l:List GTask)(i:Nat),(pI n l i = -1∧∀t∈l,k9 t n=false)∨∃(k:Nat) (t:GTask),pI n l i=((i+k:Nat):Int)∧l[k]?=some t∧k9 t n=true
 |[],i=>.inl ⟨rfl,fun t a=>by cases a⟩
 |t::l,i=>by
  unfold pI;cases q:k9 t n with
  |true=>exact .inr ⟨0,t,rfl,rfl,q⟩
  |false =>
   rw[Wu];rcases pJ n l (i+1)with⟨h,b⟩|⟨k,u,c,d,e⟩
   ·exact .inl ⟨h,fun u hu=>by rcases WE.1 hu with rfl|hu;exact q;exact b u hu⟩
   ·exact .inr ⟨k+1,u,by rw[c];omega,d,e⟩
theorem P6 (ts:List GTask)(n:Y9): -1≤aw ts n∧aw ts n<(ts.length:Int):=by
 unfold aw;rcases pJ n ts 0 with⟨h,_⟩|⟨k,t,b,a,_⟩
 ·rw[h];omega
 ·have:k<ts.length:=by
   rcases Wl k ts.length with g|g
   ·exact g
   ·rw[Wh g]at a;cases a
  rw[b];omega
theorem NB {ts:List GTask}{n:Y9}(h:0≤aw ts n):∃t∈ts,tx t.f0=tx n:=by
 unfold aw at h;rcases pJ n ts 0 with⟨b,_⟩|⟨k,t,c,h2,a⟩
 ·rw[b]at h;omega
 ·unfold k9 at a;rw[hJ,W3]at a;exact⟨t,Wd h2,a⟩
theorem TR (n:Y9):∀(l:List GTask)(i:Nat),(lD n l i).bind (fun y=>match y with
   | .ret a=>(some (a))
   | .x0=>(some ((-1:Int))))=some (pI n l i)
 |[],i=>rfl
 |t::l,i=>by
  unfold lD pI;have e:(t.f0.toList==n.toList)=k9 t n:=rfl;rw[e];cases k9 t n with
  |true=>rfl
  |false=>exact TR n l (i+1)
theorem zG (a:GTask)(b:Y9):Does E 102 [.agg (VQ .far a),.im .far () [tS b] 0] [VY (k9 a b)]:=by exact J3 a b _ rfl
theorem gZ {q0:Kd}(a:List GTask)(b:Y9)(h:a.length≤1050000):Does E 61 [.one (V8 5 (a.map (VQ q0))),V4 b] [VX (aw a b)]:=by exact RD a b _ (by unfold Be;rw[Wa (by omega)];exact TR b a 0)
inductive iC where|ret (v4:Int)|x0
def bO (q0:Kd)(v0:List GTask)(a:Y9)(v7 v8:Int):US:=stL 19 [(0,.one (V8 5 (v0.map (VQ q0)))),(1,.fni 102 [((),[tS a])]),(7,V2 v7),(8,V2 v8)]
def dS (q0:Kd)(a:Int):US:=stL 19 [(4,V2 a)]
def d9 (q0:Kd)  : US:=stL 19 []
abbrev eN:US→Exit→US→Prop:=Round E 75 (an Tryz.f75 0)
def nM {q0:Kd}(v0:List GTask)(a:Y9)(v7 v8:Int):iC→Prop| .ret b=>Loops E 75 (an Tryz.f75 0) (bO q0 v0 a v7 v8) .ret (dS q0 b)| .x0=>Loops E 75 (an Tryz.f75 0) (bO q0 v0 a v7 v8) (.exit 0) (d9 q0)
noncomputable def bu (a:Y9):List GTask→Nat→Option iC|[],i=>some (.x0)|hd::rest,i=>cond (k9 hd a) (some (.ret (i:Int))) (bu a rest (i+1))
theorem nL {q0:Kd}(v0:List GTask)(a:Y9)(rest:List GTask):∀(i:Nat) ,(v0).drop i=rest→v0.length≤9223372036854775807→Ans (bu a rest i) (nM (q0:=q0) v0 a (v0.length:Int) (i:Int)):=by
 induction rest with
 |nil =>intro i b c;have hb:=aK b;unfold bu;exact Vz (VB (show eN (bO q0 v0 a (v0.length:Int) (i:Int)) (.exit 0) (d9 q0)from RP [.b false] (AC hb<|AN)) (by intro h;cases h))
 |cons hd rest g =>
  intro i b c;have hb:=aF b;have j:=aG b c;have d:=au b;have e:=aE b;unfold bu;apply VC<;>intro f
  ·exact Vz (VB (show eN (bO q0 v0 a (v0.length:Int) (i:Int)) .ret (dS q0 (i:Int))from RP [.b true,.row ((VQ q0) hd),rT] (AC hb<|AR (VQ q0) e<|AD (VH (zG hd a) f)<|AN)) (by intro h;cases h))
  ·exact(g (i+1) d c).mono fun y k=>by have r:eN (bO q0 v0 a (v0.length:Int) (i:Int)) .normal (bO q0 v0 a (v0.length:Int) (inc (i:Int))):=RP [.b true,.row ((VQ q0) hd),rF] (AC hb<|AR (VQ q0) e<|AD (VH (zG hd a) f)<|AN);rw[j]at r;cases y<;>exact VA r k
noncomputable def eV (c:List GTask)(a:Y9):Option (Int):=
  if c.length≤9223372036854775807 then(bu a c 0).bind fun y=>match y with
   | .ret b=>(some (b))
   | .x0=>(some ((-1:Int)))else none
theorem of {q0:Kd}(x0:List GTask)(a:Y9):Ans (eV x0 a) (fun r=>Does E 75 [.one (V8 5 (x0.map (VQ q0))),.fni 102 [((),[tS a])]] [VX r]):=by
 unfold eV;apply VE;intro d;apply VD;intro y c;replace c:=nL (q0:=q0) x0 a x0 0 rfl d y c;cases y with
 |ret b =>have e:=c;exact Vz (DP Tryz.f75 [V5 (x0.length:Int),.lp .ret (dS q0 b)] (ALn x0 (VQ q0)<|AL e<|AN))
 |x0 =>have e:=c;exact Vz (DP Tryz.f75 [V5 (x0.length:Int),.lp (.exit 0) (d9 q0)] (ALn x0 (VQ q0)<|AL e<|AN))
theorem TQ (n:Y9):∀(l:List GTask)(i:Nat),(bu n l i).bind (fun y=>match y with
   | .ret a=>(some (a))
   | .x0=>(some ((-1:Int))))=some (pI n l i)
 |[],i=>rfl
 |t::l,i=>by
  unfold bu pI;cases k9 t n with
  |true=>rfl
  |false=>exact TQ n l (i+1)
theorem nS {q0:Kd}(b:List GTask)(a:Y9)(h:b.length≤1050000):Does E 75 [.one (V8 5 (b.map (VQ q0))),.fni 102 [((),[tS a])]] [VX (aw b a)]:=by exact of b a _ (by unfold eV;rw[Wa (by omega)];exact TQ a b 0)
noncomputable def c (a:GDag)(b:Y9):Option (Int):=if a.f5.length≤1050000 then some (aw a.f5 b)else none
theorem O3 {q0:Kd}(a:GDag)(b:Y9):Ans (c a b) (fun r=>Does E 77 [.agg (VK .far q0 a),V4 b] [VX r]):=by unfold c;apply VE;intro d;exact Vz (DP Tryz.f77 [.ret [VX (aw a.f5 b)]] (AV (ψ:=fun k=>E.C k 75 [.one (V8 5 (a.f5.map (VQ q0))),.fni 102 [((),[tS b])]]=some [VX (aw a.f5 b)]) (nS a.f5 b d)<|AN))
def bZ (d:GDag)(n:Y9):Int:=aw d.f5 n
theorem gL {q0:Kd}(a:GDag)(b:Y9)(h:a.f5.length≤1050000):Does E 77 [.agg (VK .far q0 a),V4 b] [VX (bZ a b)]:=by exact O3 a b _ (by unfold c;rw[Wa h];rfl)
inductive vu where|ret (v6:Bool)|x0
def iv (q0:Kd)(a b:Y9)(c d:Int)(e:Bool)(f:List GTask)(v2:List Int)(v10:List Y9)(v11 g:Int):US:=stL 25 [(0,.im .far () [tS a,tS b,tI c,tI d,tB e,V8 5 (f.map (VQ q0))] 0),(2,.one (V8 1 (v2.map etI))),(10,.one (V8 1 (v10.map etS))),(11,V2 v11),(12,V2 g)]
def mK (q0:Kd)(a:Bool):US:=stL 25 [(6,V3 a)]
def nT (q0:Kd)  : US:=stL 25 []
abbrev p8:US→Exit→US→Prop:=Round E 78 (an Tryz.f78 0)
def D9 {q0:Kd}(a b:Y9)(c d:Int)(e:Bool)(f:List GTask)(v2:List Int)(v10:List Y9)(v11 g:Int):vu→Prop| .ret h=>Loops E 78 (an Tryz.f78 0) (iv q0 a b c d e f v2 v10 v11 g) .ret (mK q0 h)| .x0=>Loops E 78 (an Tryz.f78 0) (iv q0 a b c d e f v2 v10 v11 g) (.exit 0) (nT q0)
noncomputable def fR (b c:Y9)(d e:Int)(f:List GTask)(v2:List Int):List Y9→Nat→Bool→Option vu|[],i,a=>some (.x0)|hd::rest,i,a=>if(GDag.mk b c d e a f).f5.length≤1050000 then if v2.length≤1050000 then cond (ck v2 (bZ (GDag.mk b c d e a f) hd)) (fR b c d e f v2 rest (i+1) a) (some (.ret false))else none else none
theorem D8 {q0:Kd}(b c:Y9)(d e:Int)(f:List GTask)(v2:List Int)(v10:List Y9)(rest:List Y9):∀(i:Nat)(a:Bool),(v10).drop i=rest→v10.length≤9223372036854775807→Ans (fR b c d e f v2 rest i a) (D9 (q0:=q0) b c d e a f v2 v10 (v10.length:Int) (i:Int)):=by
 induction rest with
 |nil =>intro i a g j;have hb:=aK g;unfold fR;exact Vz (VB (show p8 (iv q0 b c d e a f v2 v10 (v10.length:Int) (i:Int)) (.exit 0) (nT q0)from RP [.b false] (AC hb<|AN)) (by intro h;cases h))
 |cons hd rest q =>
  intro i a g j;have hb:=aF g;have s:=aG g j;have l:=au g;have m:=aE g;unfold fR;apply VE;intro n;apply VE;intro o;apply VC<;>intro p
  ·exact(q (i+1) a l j).mono fun y t=>by have r:p8 (iv q0 b c d e a f v2 v10 (v10.length:Int) (i:Int)) .normal (iv q0 b c d e a f v2 v10 (v10.length:Int) (inc (i:Int))):=RP [.b true,.row (etS hd),.ret [VX (bZ (GDag.mk b c d e a f) hd)],rT] (AC hb<|AR etS m<|AV (ψ:=fun k=>E.C k 77 [.agg (VK .far q0 (GDag.mk b c d e a f)),V4 hd]=some [VX (bZ (GDag.mk b c d e a f) hd)]) (gL (GDag.mk b c d e a f) hd n)<|AD (VH (ee v2 (bZ (GDag.mk b c d e a f) hd) o) p)<|AN);rw[s]at r;cases y<;>exact VA r t
  ·exact Vz (VB (show p8 (iv q0 b c d e a f v2 v10 (v10.length:Int) (i:Int)) .ret (mK q0 false)from RP [.b true,.row (etS hd),.ret [VX (bZ (GDag.mk b c d e a f) hd)],rF] (AC hb<|AR etS m<|AV (ψ:=fun k=>E.C k 77 [.agg (VK .far q0 (GDag.mk b c d e a f)),V4 hd]=some [VX (bZ (GDag.mk b c d e a f) hd)]) (gL (GDag.mk b c d e a f) hd n)<|AD (VH (ee v2 (bZ (GDag.mk b c d e a f) hd) o) p)<|AN)) (by intro h;cases h))
noncomputable def ne (a:GDag)(c:GTask)(d:List Int):Option (Bool):=
  if c.f4.length≤9223372036854775807 then(fR a.f0 a.f1 a.f2 a.f3 a.f5 d c.f4 0 a.f4).bind fun y=>match y with
   | .ret b=>(some (b))
   | .x0=>(some (true))else none
theorem Fp {q0:Kd}(x0:GDag)(a:GTask)(d:List Int):Ans (ne x0 a d) (fun r=>Does E 78 [.im .far () (VK .far q0 x0) 0,.agg (VQ .far a),.one (V8 1 (d.map etI))] [VY r]):=by
 unfold ne;apply VE;intro e;apply VD;intro y c;replace c:=D8 (q0:=q0) x0.f0 x0.f1 x0.f2 x0.f3 x0.f5 d a.f4 a.f4 0 x0.f4 rfl e y c;cases y with
 |ret b =>have f:=c;exact Vz (DP Tryz.f78 [V5 (a.f4.length:Int),.lp .ret (mK q0 b)] (ALn a.f4 etS<|AL f<|AN))
 |x0 =>have f:=c;exact Vz (DP Tryz.f78 [V5 (a.f4.length:Int),.lp (.exit 0) (nT q0)] (ALn a.f4 etS<|AL f<|AN))
def vr (ts:List GTask)(o:List Int)(t:GTask):Bool:=t.f4.all fun n=>ck o (aw ts n)
def AE (d:GDag)(t:GTask)(o:List Int):Bool:=vr d.f5 o t
theorem QS (a b:Y9)(c e:Int)(ts:List GTask)(o:List Int)(d:ts.length≤1050000)(f:o.length≤1050000):∀(l:List Y9)(i:Nat)(z:Bool),fR a b c e ts o l i z=some (cond (l.all fun n=>ck o (aw ts n)) .x0 (.ret false))
 |[],i,z=>rfl
 |n::l,i,z=>by unfold fR;rw[Wa (show(GDag.mk a b c e z ts).f5.length≤1050000 from d),Wa f,Xh,QS a b c e ts o d f l (i+1) z];show cond (ck o (aw ts n)) _ _=_;cases ck o (aw ts n)<;>rfl
theorem TY (d:GDag)(t:GTask)(o:List Int)(a:d.f5.length≤1050000)(c:t.f4.length≤1050000)(b:o.length≤1050000):ne d t o=some (AE d t o):=by unfold ne;rw[Wa (by omega),QS _ _ _ _ _ _ a b];show _=some (t.f4.all fun n=>ck o (aw d.f5 n));cases t.f4.all fun n=>ck o (aw d.f5 n)<;>rfl
theorem E8 {q0:Kd}(a:GDag)(b:GTask)(c:List Int)(d:a.f5.length≤1050000)(e:b.f4.length≤1050000)(f:c.length≤1050000):Does E 78 [.im .far () (VK .far q0 a) 0,.agg (VQ .far b),.one (V8 1 (c.map etI))] [VY (AE a b c)]:=by exact Fp a b c _ (TY a b c d e f)
noncomputable def sQ (a:GTask)(b:List Int)(c:GDag):Option (Bool):=if c.f5.length≤1050000 then if b.length≤1050000 then cond (ck b (bZ c a.f0)) (some (false)) (if a.f4.length≤1050000 then some (AE c a b)else none)else none else none
theorem HO {c:Kd}(b:GTask)(d:List Int)(a:GDag):Ans (sQ b d a) (fun r=>Does E 76 [.agg (VQ .far b),.im .far () [V8 1 (d.map etI)] 0,.im .far () [tS a.f0,tS a.f1,tI a.f2,tI a.f3,tB a.f4,V8 5 (a.f5.map (VQ c))] 0] [VY r]):=by
 unfold sQ;apply VE;intro e;apply VE;intro f;apply VC<;>intro g
 ·exact Vz (DP Tryz.f76 [.ret [VX (bZ a b.f0)],rT] (AV (ψ:=fun k=>E.C k 77 [.agg (VK .far c a),V4 b.f0]=some [VX (bZ a b.f0)]) (gL a b.f0 e)<|AD (VH (ee d (bZ a b.f0) f) g)<|AN))
 ·apply VE;intro h;exact Vz (DP Tryz.f76 [.ret [VX (bZ a b.f0)],rF,.ret [VY (AE a b d)]] (AV (ψ:=fun k=>E.C k 77 [.agg (VK .far c a),V4 b.f0]=some [VX (bZ a b.f0)]) (gL a b.f0 e)<|AD (VH (ee d (bZ a b.f0) f) g)<|AV (ψ:=fun k=>E.C k 78 [.im .far () [tS a.f0,tS a.f1,tI a.f2,tI a.f3,tB a.f4,V8 5 (a.f5.map (VQ c))] 0,.agg (VQ .far b),.one (V8 1 (d.map etI))]=some [VY (AE a b d)]) (E8 a b d e h f)<|AN))
def C7 (t:GTask)(o:List Int)(d:GDag):Bool := !ck o (aw d.f5 t.f0)&&vr d.f5 o t
theorem yF {d:Kd}(b:GTask)(c:List Int)(a:GDag)(e:a.f5.length≤1050000)(f:b.f4.length≤1050000)(g:c.length≤1050000):Does E 76 [.agg (VQ .far b),.im .far () [V8 1 (c.map etI)] 0,.im .far () [tS a.f0,tS a.f1,tI a.f2,tI a.f3,tB a.f4,V8 5 (a.f5.map (VQ d))] 0] [VY (C7 b c a)]:=by exact HO b c a _ (by unfold sQ C7;simp only[e,f,g,WN];show cond (ck c (aw a.f5 b.f0)) _ _=_;cases ck c (aw a.f5 b.f0)<;>rfl)
inductive ip where|ret (v4:Int)|x0
def bL (q0:Kd)(qc1_1:Kd)(v0:List GTask)(a:List Int)(b c:Y9)(d e:Int)(f:Bool)(g:List GTask)(v7 v8:Int):US:=stL 19 [(0,.one (V8 5 (v0.map (VQ q0)))),(1,.fni 76 [((),[V8 1 (a.map etI)]),((),[tS b,tS c,tI d,tI e,tB f,V8 5 (g.map (VQ qc1_1))])]),(7,V2 v7),(8,V2 v8)]
def dK (q0:Kd)(qc1_1:Kd)(a:Int):US:=stL 19 [(4,V2 a)]
def dT (q0:Kd)(qc1_1:Kd)  : US:=stL 19 []
abbrev eB:US→Exit→US→Prop:=Round E 75 (an Tryz.f75 0)
def mZ {q0:Kd}{qc1_1:Kd}(v0:List GTask)(a:List Int)(b c:Y9)(d e:Int)(f:Bool)(g:List GTask)(v7 v8:Int):ip→Prop| .ret h=>Loops E 75 (an Tryz.f75 0) (bL q0 qc1_1 v0 a b c d e f g v7 v8) .ret (dK q0 qc1_1 h)| .x0=>Loops E 75 (an Tryz.f75 0) (bL q0 qc1_1 v0 a b c d e f g v7 v8) (.exit 0) (dT q0 qc1_1)
noncomputable def bo (b:List Int)(c d:Y9)(e f:Int)(g:List GTask):List GTask→Nat→Bool→Option ip|[],i,a=>some (.x0)|hd::rest,i,a=>if(GDag.mk c d e f a g).f5.length≤1050000 then if hd.f4.length≤1050000 then if b.length≤1050000 then cond (C7 hd b (GDag.mk c d e f a g)) (some (.ret (i:Int))) (bo b c d e f g rest (i+1) a)else none else none else none
theorem mY {q0:Kd}{qc1_1:Kd}(v0:List GTask)(b:List Int)(c d:Y9)(e f:Int)(g:List GTask)(rest:List GTask):∀(i:Nat)(a:Bool),(v0).drop i=rest→v0.length≤9223372036854775807→Ans (bo b c d e f g rest i a) (mZ (q0:=q0) (qc1_1:=qc1_1) v0 b c d e f a g (v0.length:Int) (i:Int)):=by
 induction rest with
 |nil =>intro i a j l;have hb:=aK j;unfold bo;exact Vz (VB (show eB (bL q0 qc1_1 v0 b c d e f a g (v0.length:Int) (i:Int)) (.exit 0) (dT q0 qc1_1)from RP [.b false] (AC hb<|AN)) (by intro h;cases h))
 |cons hd rest t =>
  intro i a j l;have hb:=aF j;have u:=aG j l;have m:=au j;have n:=aE j;unfold bo;apply VE;intro o;apply VE;intro p;apply VE;intro q;apply VC<;>intro s
  ·exact Vz (VB (show eB (bL q0 qc1_1 v0 b c d e f a g (v0.length:Int) (i:Int)) .ret (dK q0 qc1_1 (i:Int))from RP [.b true,.row ((VQ q0) hd),rT] (AC hb<|AR (VQ q0) n<|AV (ψ:=fun k=>E.C k 76 [.agg (VQ .far hd),.im .far () [V8 1 (b.map etI)] 0,.im .far () [tS c,tS d,tI e,tI f,tB a,V8 5 (g.map (VQ qc1_1))] 0]=some [VY true]) (VF (yF hd b (GDag.mk c d e f a g) o p q) (by rw[s]))<|AN)) (by intro h;cases h))
  ·exact(t (i+1) a m l).mono fun y v=>by have r:eB (bL q0 qc1_1 v0 b c d e f a g (v0.length:Int) (i:Int)) .normal (bL q0 qc1_1 v0 b c d e f a g (v0.length:Int) (inc (i:Int))):=RP [.b true,.row ((VQ q0) hd),rF] (AC hb<|AR (VQ q0) n<|AV (ψ:=fun k=>E.C k 76 [.agg (VQ .far hd),.im .far () [V8 1 (b.map etI)] 0,.im .far () [tS c,tS d,tI e,tI f,tB a,V8 5 (g.map (VQ qc1_1))] 0]=some [VY false]) (VF (yF hd b (GDag.mk c d e f a g) o p q) (by rw[s]))<|AN);rw[u]at r;cases y<;>exact VA r v
noncomputable def cW (d:List GTask)(b:List Int)(a:GDag):Option (Int):=
  if d.length≤9223372036854775807 then(bo b a.f0 a.f1 a.f2 a.f3 a.f5 d 0 a.f4).bind fun y=>match y with
   | .ret c=>(some (c))
   | .x0=>(some ((-1:Int)))else none
theorem nN {q0:Kd}{qc1_1:Kd}(x0:List GTask)(b:List Int)(a:GDag):Ans (cW x0 b a) (fun r=>Does E 75 [.one (V8 5 (x0.map (VQ q0))),.fni 76 [((),[V8 1 (b.map etI)]),((),[tS a.f0,tS a.f1,tI a.f2,tI a.f3,tB a.f4,V8 5 (a.f5.map (VQ qc1_1))])]] [VX r]):=by
 unfold cW;apply VE;intro e;apply VD;intro y d;replace d:=mY (q0:=q0) (qc1_1:=qc1_1) x0 b a.f0 a.f1 a.f2 a.f3 a.f5 x0 0 a.f4 rfl e y d;cases y with
 |ret c =>have f:=d;exact Vz (DP Tryz.f75 [V5 (x0.length:Int),.lp .ret (dK q0 qc1_1 c)] (ALn x0 (VQ q0)<|AL f<|AN))
 |x0 =>have f:=d;exact Vz (DP Tryz.f75 [V5 (x0.length:Int),.lp (.exit 0) (dT q0 qc1_1)] (ALn x0 (VQ q0)<|AL f<|AN))
def fY (o:List Int)(ts:List GTask):List GTask→Nat→Option Nat|[],_=>none|t::r,i=>if(!ck o (aw ts t.f0)&&vr ts o t)=true then some i else fY o ts r (i+1)
def cU (l:List GTask)(o:List Int)(d:GDag):Int:=match fY o d.f5 l 0 with|some i=>(i:Int)|none => -1
theorem Re (o:List Int)(a b:Y9)(c e:Int)(ts:List GTask)(f:ts.length≤1050000)(g:o.length≤1050000):∀(l:List GTask)(i:Nat)(z:Bool),ab.sm l→bo o a b c e ts l i z=some (match fY o ts l i with|some k=>.ret (k:Int)|none=>.x0)
 |[],i,z,_=>rfl
 |t::l,i,z,d=>by unfold bo fY;have h:t.f4.length≤1050000:=(d.2 t (by simp)).2.2.1;rw[Wa (show(GDag.mk a b c e z ts).f5.length≤1050000 from f),Wa h,Wa g,Re o a b c e ts f g l (i+1) z ⟨by have:=d.1;simp at this;omega,fun y j=>d.2 y (by simp[j])⟩];show cond (!ck o (aw ts t.f0)&&vr ts o t) _ _=_;cases(!ck o (aw ts t.f0)&&vr ts o t)<;>rfl
theorem T6 (l:List GTask)(o:List Int)(d:GDag)(a:ab.sm l)(b:d.f5.length≤1050000)(c:o.length≤1050000):cW l o d=some (cU l o d):=by unfold cW cU;rw[Wa (by have:=a.1;omega),Re o d.f0 d.f1 d.f2 d.f3 d.f5 b c l 0 d.f4 a];cases fY o d.f5 l 0<;>rfl
theorem ir {q0:Kd}{qc1_1:Kd}(c:List GTask)(b:List Int)(a:GDag)(d:ab.sm c)(e:a.f5.length≤1050000)(f:b.length≤1050000):Does E 75 [.one (V8 5 (c.map (VQ q0))),.fni 76 [((),[V8 1 (b.map etI)]),((),[tS a.f0,tS a.f1,tI a.f2,tI a.f3,tB a.f4,V8 5 (a.f5.map (VQ qc1_1))])]] [VX (cU c b a)]:=by exact nN c b a _ (T6 c b a d e f)
inductive Aw where|ret (v2:List Int)
def qd (q0:Kd)(a b:Y9)(c d:Int)(e:Bool)(f:List GTask)(g:List Int):US:=stL 16 [(1,.box () [tS a,tS b,tI c,tI d,tB e,V8 5 (f.map (VQ q0))]),(3,.box () [V7 1 (g.map etI)])]
def mn (q0:Kd)(a:List Int):US:=stL 16 [(2,.one (V7 1 (a.map etI)))]
abbrev Av:US→Exit→US→Prop:=Round E 49 (an Tryz.f49 0)
def J6 {q0:Kd}(a b:Y9)(c d:Int)(e:Bool)(f:List GTask)(g:List Int):Aw→Prop| .ret h=>Loops E 49 (an Tryz.f49 0) (qd q0 a b c d e f g) .ret (mn q0 h)
noncomputable def kK (c d:Y9)(e f:Int)(a:List GTask):Nat→Bool→(List Int)→Option Aw| 0,_,_=>none|n+1,g,b=>if ab.sm a then if(GDag.mk c d e f g a).f5.length≤1050000 then if b.length≤1050000 then cond (decide ((cU a b (GDag.mk c d e f g a))<(0:Int))) (some (.ret b)) (if(b.length+([cU a b (GDag.mk c d e f g a)]).length)*8≤140737488355328∧b.length+([cU a b (GDag.mk c d e f g a)]).length≤4611686018427387904 then kK c d e f a n g (b++([cU a b (GDag.mk c d e f g a)]))else none)else none else none else none
theorem J5 {q0:Kd}(d e:Y9)(f g:Int)(a:List GTask)(n:Nat):∀(c:Bool)(b:List Int),Ans (kK d e f g a n c b) (J6 (q0:=q0) d e f g c a b):=by
 induction n with
 |zero=>intros;exact Ans.none
 |succ n o =>
  intro c b;unfold kK;apply VE;intro i;apply VE;intro j;apply VE;intro l;apply VC<;>intro m
  ·exact Vz (VB (show Av (qd q0 d e f g c a b) .ret (mn q0 b)from Round.to (RP (D':=stL 16 [(2,.one (V7 1 (((b.map etI).drop 0).take (b.map etI).length)))]) [.ret [VX (cU a b (GDag.mk d e f g c a))],.b true] (AV (ψ:=fun k=>E.C k 75 [.one (V8 5 (a.map (VQ q0))),.fni 76 [((),[V8 1 (b.map etI)]),((),[tS d,tS e,tI f,tI g,tB c,V8 5 (a.map (VQ q0))])]]=some [VX (cU a b (GDag.mk d e f g c a))]) (ir a b (GDag.mk d e f g c a) i j l)<|AC m<|AN)) (by simp only[mn,WS,WK])) (by intro h;cases h))
  ·apply VE;intro q;have r:Av (qd q0 d e f g c a b) .normal (qd q0 d e f g c a (b++([cU a b (GDag.mk d e f g c a)]))):=RP [.ret [VX (cU a b (GDag.mk d e f g c a))],.b false,.rows ((b++([cU a b (GDag.mk d e f g c a)])).map etI)] (AV (ψ:=fun k=>E.C k 75 [.one (V8 5 (a.map (VQ q0))),.fni 76 [((),[V8 1 (b.map etI)]),((),[tS d,tS e,tI f,tI g,tB c,V8 5 (a.map (VQ q0))])]]=some [VX (cU a b (GDag.mk d e f g c a))]) (ir a b (GDag.mk d e f g c a) i j l)<|AC m<|AC (p:=(((([cU a b (GDag.mk d e f g c a)]).map etI).drop 0).take (([cU a b (GDag.mk d e f g c a)]).map etI).length).all (fun r=>r.all T.flat)=true∧((((b.map etI).drop 0).take (b.map etI).length).length+(((([cU a b (GDag.mk d e f g c a)]).map etI).drop 0).take (([cU a b (GDag.mk d e f g c a)]).map etI).length).length)*8≤140737488355328∧(((b.map etI).drop 0).take (b.map etI).length).length+(((([cU a b (GDag.mk d e f g c a)]).map etI).drop 0).take (([cU a b (GDag.mk d e f g c a)]).map etI).length).length≤4611686018427387904) (by simp only[WS,WK];exact SZ (fun x=>rfl) q)<|AC (p:=(((b.map etI).drop 0).take (b.map etI).length)++(((([cU a b (GDag.mk d e f g c a)]).map etI).drop 0).take (([cU a b (GDag.mk d e f g c a)]).map etI).length)=(b++([cU a b (GDag.mk d e f g c a)])).map etI) (by simp only[WS,WK];exact Qj)<|AN);exact(o c (b++([cU a b (GDag.mk d e f g c a)]))).mono fun y s=>by cases y<;>exact VA r s
noncomputable def rR (a:GDag):Option ((List Int)):=
  (kK a.f0 a.f1 a.f2 a.f3 a.f5 9223372036854775808 a.f4 ([])).bind fun y=>match y with
   | .ret b=>(some (b))
theorem Mv {q0:Kd}(a:GDag):Ans (rR a) (fun r=>Does E 49 [.agg (VK .far q0 a)] [(false,[V7 1 (r.map etI)])]):=by
 unfold rR;apply VD;intro y c;replace c:=J5 (q0:=q0) a.f0 a.f1 a.f2 a.f3 a.f5 9223372036854775808 a.f4 ([]) y c;cases y with
 |ret b =>have d:=c;exact Vz (DP Tryz.f49 [.lp .ret (mn q0 b)] (AL d<|AN))
def dn (ts:List GTask):Prop:=ts.length≤4∧∀(i:Nat)(t:GTask),ts[i]?=some t→aw ts t.f0=(i:Int)
def kQ (ts:List GTask):Nat→List Int→List Int
 | 0,o=>o
 |k+1,o=>match fY o ts ts 0 with|none=>o|some i=>kQ ts k (o++[(i:Int)])
def bX (ts:List GTask):List Int:=kQ ts ts.length []
def eh (d:GDag):List Int:=bX d.f5
theorem C2 {o:List Int}{x:Int}:ck o x=true↔x∈o:=by
 unfold ck;rw[Xx];constructor
 ·rintro⟨y,h,e⟩;rw[XW]at e;subst e;exact h
 ·intro h;exact⟨x,h,by simp⟩
theorem ta {o:List Int}{ts:List GTask}:∀{l:List GTask}{i k:Nat},fY o ts l i=some k→∃t j,k=i+j∧l[j]?=some t∧ck o (aw ts t.f0)=false∧vr ts o t=true
 |[],i,k,h=>by cases h
 |t::l,i,k,h=>by
  unfold fY at h;split at h
  ·rename_i q;cases h;simp only[Ww,YX]at q;exact⟨t,0,rfl,rfl,q.1,q.2⟩
  ·obtain⟨u,j,c,a,b⟩:=ta h;exact⟨u,j+1,by omega,a,b⟩
def BB (n:Nat)(o:List Int):Nat:=((List.range n).filter fun i:Nat => !ck o (i:Int)).length
theorem GT {α:Type}{p q:α→Bool}:∀{l:List α},(∀y,q y=true→p y=true)→(l.filter q).length≤(l.filter p).length
 |[],_=>by simp
 |z::l,h=>by
  have b:=GT (l:=l) h;rw[Xy,Xy];cases a:q z with
  |true=>rw[h z a];simpa using b
  |false=>cases p z<;>simp<;>omega
theorem GU {α:Type}{p q:α→Bool}{x:α}:∀{l:List α},(∀y,q y=true→p y=true)→x∈l→p x=true→q x=false→(l.filter q).length<(l.filter p).length
 |y::l,h,hx,b,c=>by
  have le:=GT (l:=l) h;rw[Xy,Xy];rcases WE.1 hx with rfl|hx
  ·rw[b,c];simp;omega
  ·have:=GU (l:=l) h hx b c;cases a:q y with
   |true=>rw[h y a];simpa using this
   |false=>cases p y<;>simp<;>omega
theorem Rb {n i:Nat}{o:List Int}(hi:i<n)(h:ck o (i:Int)=false):BB n (o++[(i:Int)])<BB n o:=by
 unfold BB;refine GU (p:=fun i:Nat => !ck o (i:Int)) (q:=fun j:Nat => !ck (o++[(i:Int)]) (j:Int)) (x:=i) (fun y a=>?_) (W0.2 hi) (by rw[h];rfl) ?_
 ·rw[YX]at a ⊢;rw[←X7,C2]at a ⊢;exact fun e=>a (by simp[e])
 ·have:ck (o++[(i:Int)]) (i:Int)=true:=C2.2 (by simp);rw[this];rfl
theorem SI (n:Nat):BB n []=n:=by
 unfold BB;have:(List.range n).filter (fun i:Nat => !ck [] (i:Int))=List.range n:=List.filter_eq_self.2 fun a _=>rfl
 rw[this,YU]
theorem N3 (a b:Y9)(c e:Int)(ts:List GTask)(hs:ab.sm ts)(h:dn ts):∀(k n:Nat)(o:List Int)(z:Bool),BB ts.length o≤k→k<n→o.length+k≤1000→kK a b c e ts n z o=some (.ret (kQ ts k o))
 |k,0,o,z,_,r,_=>by omega
 |k,n+1,o,z,v,r,w=>by
  unfold kK;rw[Wa hs,Wa (show(GDag.mk a b c e z ts).f5.length≤1050000 from hs.1),Wa (by omega)];have s:cU ts o (GDag.mk a b c e z ts)=match fY o ts ts 0 with|some i=>(i:Int)|none => -1:=rfl
  rw[s];cases q:fY o ts ts 0 with
  |none =>
   have:kQ ts k o=o:=by
    cases k with
    |zero=>rfl
    |succ k=>unfold kQ;rw[q]
   rw[this];rfl
  |some i =>
   obtain⟨t,j,x,d,l,y⟩:=ta q;have f:i=j:=by omega
   subst f;rw[h.2 i t d]at l;have hi:i<ts.length:=by
    rcases Wl i ts.length with g|g
    ·exact g
    ·rw[Wh g]at d;cases d
   have p:=Rb hi l;obtain⟨k,rfl⟩:∃m,k=m+1:=⟨k-1,by omega⟩
   have u:=N3 a b c e ts hs h k n (o++[(i:Int)]) z (by omega) (by omega) (by simp;omega);simp only;rw[Wj (by omega),Wu,Wa (by simp;omega),u]
   conv=>rhs;unfold kQ
   rw[q]
theorem Rm (d:GDag)(h:ab.sm d)(a:dn d.f5):rR d=some (eh d):=by have hs:ab.sm d.f5:=h.2.2;unfold rR;have:=N3 d.f0 d.f1 d.f2 d.f3 d.f5 hs a d.f5.length 9223372036854775808 [] d.f4 (by rw[SI];exact WU _) (by have:=a.1;omega) (by have:=a.1;simp;omega);refine(Wy (Option.bind · _) this).trans rfl
theorem vS {q0:Kd}(a:GDag)(h:ab.sm a)(b:dn a.f5):Does E 49 [.agg (VK .far q0 a)] [(false,[V7 1 ((eh a).map etI)])]:=by exact Mv a _ (Rm a h b)
inductive zm where|x4 (v6:Bool)
def iM (q0:Kd)(v0:List GTask)(v3:List Int)(v4 v5:Int)(v6:Bool)(v7:Int):US:=stL 57 [(0,.one (V8 5 (v0.map (VQ q0)))),(3,.one (V7 1 (v3.map etI))),(4,V2 v4),(5,V2 v5),(6,V3 v6),(7,V2 v7)]
def ko (q0:Kd)(v0:List GTask)(v3:List Int)(v4 v5:Int)(a:Bool):US:=stL 57 [(0,.one (V8 5 (v0.map (VQ q0)))),(3,.one (V7 1 (v3.map etI))),(4,V2 v4),(5,V2 v5),(6,V3 a)]
abbrev oU:US→Exit→US→Prop:=Round E 32 (an Tryz.f32 2)
def Iw {q0:Kd}(v0:List GTask)(v3:List Int)(v4 v5:Int)(v6:Bool)(v7:Int):zm→Prop| .x4 a=>Loops E 32 (an Tryz.f32 2) (iM q0 v0 v3 v4 v5 v6 v7) (.exit 4) (ko q0 v0 v3 v4 v5 a)
noncomputable def gC (v0:List GTask)(v3:List Int)(v5:Int):Nat→Bool→Int→Option zm
 | 0,_,_=>none
 |n+1,v6,v7=>match v6 with
  |true=>(ak v0 v5).bind fun a=>cond (decide (v7<(a.f4.length:Int)))
   ((ak a.f4 v7).bind fun g1=>if v0.length≤1050000 then if v3.length≤1050000 then gC v0 v3 v5 n (ck v3 (aw v0 g1)) (inc v7)else none else none)
   (some (.x4 v6))
  |false=>(ak v0 v5).bind fun a=>cond (decide (v7<(a.f4.length:Int)))
   (gC v0 v3 v5 n false (inc v7))
   (some (.x4 v6))
theorem It {q0:Kd}(v0:List GTask)(v3:List Int)(v4 v5:Int)(n:Nat):∀(v6:Bool)(v7:Int),Ans (gC v0 v3 v5 n v6 v7) (Iw (q0:=q0) v0 v3 v4 v5 v6 v7):=by
 induction n with
 |zero=>intros;exact Ans.none
 |succ n e =>
  intro v6 v7;unfold gC;cases v6 with
  |true =>
   apply VD;intro a b;apply VC<;>intro c
   ·apply VD;intro g1 f;apply VE;intro g;apply VE;intro i;have r:oU (iM q0 v0 v3 v4 v5 true v7) .normal (iM q0 v0 v3 v4 v5 (ck v3 (aw v0 g1)) (inc v7)):=RP [.row ((VQ q0) a),V5 (a.f4.length:Int),.b true,.row ((VQ q0) a),.row (etS g1),.ret [VX (aw v0 g1)],.ret [VY (ck v3 (aw v0 g1))]] (AR (VQ q0) b<|ALn a.f4 etS<|AC c<|AR (VQ q0) b<|AR etS f<|AV (ψ:=fun k=>E.C k 61 [.one (V8 5 (v0.map (VQ q0))),V4 g1]=some [VX (aw v0 g1)]) (gZ v0 g1 g)<|AV (ψ:=fun k=>E.C k 60 [.one (V8 1 (((v3.map etI).drop 0).take (v3.map etI).length)),V2 (aw v0 g1)]=some [VY (ck v3 (aw v0 g1))]) (VG (by simp only[WS,WK]) (pm v3 (aw v0 g1) i))<|AN);exact(e (ck v3 (aw v0 g1)) (inc v7)).mono fun y d=>by cases y<;>exact VA r d
   ·exact Vz (VB (show oU (iM q0 v0 v3 v4 v5 true v7) (.exit 4) (ko q0 v0 v3 v4 v5 true)from RP [.row ((VQ q0) a),V5 (a.f4.length:Int),.b false] (AR (VQ q0) b<|ALn a.f4 etS<|AC c<|AN)) (by intro h;cases h))
  |false =>
   apply VD;intro a b;apply VC<;>intro c
   ·have r:oU (iM q0 v0 v3 v4 v5 false v7) .normal (iM q0 v0 v3 v4 v5 false (inc v7)):=RP [.row ((VQ q0) a),V5 (a.f4.length:Int),.b true] (AR (VQ q0) b<|ALn a.f4 etS<|AC c<|AN);exact(e false (inc v7)).mono fun y d=>by cases y<;>exact VA r d
   ·exact Vz (VB (show oU (iM q0 v0 v3 v4 v5 false v7) (.exit 4) (ko q0 v0 v3 v4 v5 false)from RP [.row ((VQ q0) a),V5 (a.f4.length:Int),.b false] (AR (VQ q0) b<|ALn a.f4 etS<|AC c<|AN)) (by intro h;cases h))
inductive zl where|x2 (v3:List Int)
def gB (q0:Kd)(v0:List GTask)(v3:List Int)(v4 v5:Int):US:=stL 57 [(0,.one (V8 5 (v0.map (VQ q0)))),(3,.one (V7 1 (v3.map etI))),(4,V2 v4),(5,V2 v5)]
def qP (q0:Kd)(v0:List GTask)(v4:Int)(a:List Int):US:=stL 57 [(0,.one (V8 5 (v0.map (VQ q0)))),(3,.one (V7 1 (a.map etI))),(4,V2 v4)]
abbrev oT:US→Exit→US→Prop:=Round E 32 (an Tryz.f32 1)
def Iv {q0:Kd}(v0:List GTask)(v3:List Int)(v4 v5:Int):zl→Prop| .x2 a=>Loops E 32 (an Tryz.f32 1) (gB q0 v0 v3 v4 v5) (.exit 2) (qP q0 v0 v4 a)
noncomputable def eH (v0:List GTask):Nat→(List Int)→Int→Option zl
 | 0,_,_=>none
 |n+1,v3,v5=>cond (decide (v5<(v0.length:Int)))
  (if v3.length≤1050000 then cond (ck v3 v5)
   (eH v0 n v3 (inc v5))
   ((gC v0 v3 v5 9223372036854775808 true 0).bind fun y=>match y with
    | .x4 a=>(match a with
     |true=>if(v3.length+([v5]).length)*8≤140737488355328∧v3.length+([v5]).length≤4611686018427387904 then eH v0 n (v3++([v5])) (inc (v0.length:Int))else none
     |false=>eH v0 n v3 (inc v5)))else none)
  (some (.x2 v3))
theorem Is {q0:Kd}(v0:List GTask)(v4:Int)(n:Nat):∀(v3:List Int)(v5:Int),Ans (eH v0 n v3 v5) (Iv (q0:=q0) v0 v3 v4 v5):=by
 induction n with
 |zero=>intros;exact Ans.none
 |succ n d =>
  intro v3 v5;unfold eH;apply VC<;>intro c
  ·apply VE;intro e;apply VC<;>intro f
   ·have r:oT (gB q0 v0 v3 v4 v5) .normal (gB q0 v0 v3 v4 (inc v5)):=RP [V5 (v0.length:Int),.b true,rT] (ALn v0 (VQ q0)<|AC c<|AV (ψ:=fun k=>E.C k 60 [.one (V8 1 (((v3.map etI).drop 0).take (v3.map etI).length)),V2 v5]=some [VY true]) (VG (by simp only[WS,WK]) (VF (pm v3 v5 e) (by rw[f])))<|AN);exact(d v3 (inc v5)).mono fun y a=>by cases y<;>exact VA r a
   ·apply VD;intro y a;replace a:=It (q0:=q0) v0 v3 v4 v5 9223372036854775808 true 0 y a;cases y with
    |x4 b =>
     have g:=a;cases b with
     |true =>apply VE;intro i;have r:oT (gB q0 v0 v3 v4 v5) .normal (gB q0 v0 (v3++([v5])) v4 (inc (v0.length:Int))):=RP [V5 (v0.length:Int),.b true,rF,.lp (.exit 4) (ko q0 v0 v3 v4 v5 true),.rows ((v3++([v5])).map etI),V5 (v0.length:Int)] (ALn v0 (VQ q0)<|AC c<|AV (ψ:=fun k=>E.C k 60 [.one (V8 1 (((v3.map etI).drop 0).take (v3.map etI).length)),V2 v5]=some [VY false]) (VG (by simp only[WS,WK]) (VF (pm v3 v5 e) (by rw[f])))<|AL g<|AAp etI (fun _=>rfl) i<|ALn v0 (VQ q0)<|AN);exact(d (v3++([v5])) (inc (v0.length:Int))).mono fun y a=>by cases y<;>exact VA r a
     |false =>have r:oT (gB q0 v0 v3 v4 v5) .normal (gB q0 v0 v3 v4 (inc v5)):=RP [V5 (v0.length:Int),.b true,rF,.lp (.exit 4) (ko q0 v0 v3 v4 v5 false)] (ALn v0 (VQ q0)<|AC c<|AV (ψ:=fun k=>E.C k 60 [.one (V8 1 (((v3.map etI).drop 0).take (v3.map etI).length)),V2 v5]=some [VY false]) (VG (by simp only[WS,WK]) (VF (pm v3 v5 e) (by rw[f])))<|AL g<|AN);exact(d v3 (inc v5)).mono fun y a=>by cases y<;>exact VA r a
  ·exact Vz (VB (show oT (gB q0 v0 v3 v4 v5) (.exit 2) (qP q0 v0 v4 v3)from RP [V5 (v0.length:Int),.b false] (ALn v0 (VQ q0)<|AC c<|AN)) (by intro h;cases h))
inductive zk where|x0 (v3:List Int)
def oV (q0:Kd)(v0:List GTask)(v3:List Int)(v4:Int):US:=stL 57 [(0,.one (V8 5 (v0.map (VQ q0)))),(3,.one (V7 1 (v3.map etI))),(4,V2 v4)]
def qO (q0:Kd)(a:List Int):US:=stL 57 [(3,.one (V7 1 (a.map etI)))]
abbrev zj:US→Exit→US→Prop:=Round E 32 (an Tryz.f32 0)
def Iu {q0:Kd}(v0:List GTask)(v3:List Int)(v4:Int):zk→Prop| .x0 a=>Loops E 32 (an Tryz.f32 0) (oV q0 v0 v3 v4) (.exit 0) (qO q0 a)
noncomputable def iN (v0:List GTask):List GTask→Nat→(List Int)→Option zk
 |[],i,v3=>some (.x0 v3)
 |hd::rest,i,v3=>(eH v0 9223372036854775808 v3 0).bind fun y=>match y with
  | .x2 a=>(iN v0 rest (i+1) a)
theorem Ir {q0:Kd}(v0:List GTask)(rest:List GTask):∀(i:Nat)(v3:List Int),(v0).drop i=rest→v0.length≤9223372036854775807→Ans (iN v0 rest i v3) (Iu (q0:=q0) v0 v3 (i:Int)):=by
 induction rest with
 |nil =>intro i v3 b d;have hb:=aK b;unfold iN;exact Vz (VB (show zj (oV q0 v0 v3 (i:Int)) (.exit 0) (qO q0 v3)from RP [V5 (v0.length:Int),.b false] (ALn v0 (VQ q0)<|AC hb<|AN)) (by intro h;cases h))
 |cons hd rest f =>
  intro i v3 b d;have hb:=aF b;have g:=aG b d;have e:=au b;have k:=aE b;unfold iN;apply VD;intro y c;replace c:=Is (q0:=q0) v0 (i:Int) 9223372036854775808 v3 0 y c;cases y with
  |x2 a =>have j:=c;exact(f (i+1) a e d).mono fun y c=>by have r:zj (oV q0 v0 v3 (i:Int)) .normal (oV q0 v0 a (inc (i:Int))):=RP [V5 (v0.length:Int),.b true,.lp (.exit 2) (qP q0 v0 (i:Int) a)] (ALn v0 (VQ q0)<|AC hb<|AL j<|AN);rw[g]at r;cases y<;>exact VA r c
noncomputable def qQ (b:List GTask):Option ((List Int)):=
  if b.length≤9223372036854775807 then(iN b b 0 ([])).bind fun y=>match y with
   | .x0 a=>(some (a))else none
theorem Lh {q0:Kd}(x0:List GTask):Ans (qQ x0) (fun r=>Does E 32 [.one (V8 5 (x0.map (VQ q0)))] [(false,[V7 1 (r.map etI)])]):=by
 unfold qQ;apply VE;intro b;apply VD;intro y c;replace c:=Ir (q0:=q0) x0 x0 0 ([]) rfl b y c;cases y with
 |x0 a =>have d:=c;exact Vz (DP Tryz.f32 [.lp (.exit 0) (qO q0 a)] (AL d<|AN))
theorem K9 (ts:List GTask)(o:List Int)(i:Nat)(t:GTask)(c:ts.length≤1050000)(d:o.length≤1050000)(hi:ts[i]?=some t)(hf:t.f4.length≤1050000):∀(m k n:Nat)(b:Bool),k+m=t.f4.length→m<n →
  gC ts o (i:Int) n b (k:Int)=some (.x4 (b&&((t.f4.drop k).all fun x=>ck o (aw ts x))))
 |m,k,0,b,_,g=>by omega
 |m,k,n+1,b,j,g=>by
  have f:ak ts (i:Int)=some t:=by rw[cp];exact hi
  unfold gC;cases m with
  |zero =>have hd:t.f4.drop k=[]:=WV (by omega);rw[hd];cases b<;>(simp only[f,V9];rw[Wj (by omega)];rfl)
  |succ m =>
   have a:∃x,t.f4[k]?=some x:=⟨t.f4[k]'(by omega),Wg (by omega)⟩
   obtain⟨x,a⟩:=a;have hd:t.f4.drop k=x::t.f4.drop (k+1):=by rw[Xk (by omega:k<t.f4.length)];rw[Wg (by omega)]at a;rw[X0 a]
   have e:inc (k:Int)=((k+1:Nat):Int):=by rw[mN _ (by omega) (by omega)];omega
   rw[hd,Xh];cases b with
   |false =>simp only[f,V9];rw[Wi (by omega),Wn,e,K9 ts o i t c d hi hf m (k+1) n false (by omega) (by omega)];rfl
   |true =>
    have h:ak t.f4 (k:Int)=some x:=by rw[cp];exact a
    simp only[f,V9];rw[Wi (by omega),Wn,h,V9,Wa c,Wa d,e,K9 ts o i t c d hi hf m (k+1) n _ (by omega) (by omega)];rfl
theorem N7 (ts:List GTask)(hs:ab.sm ts)(b:dn ts)(o:List Int)(l:o.length≤1000):∀(m i n:Nat),i+m=ts.length→m+1<n →
  eH ts n o (i:Int)=some (.x2 (match fY o ts (ts.drop i) i with|some k=>o++[(k:Int)]|none=>o))
 |m,i,0,_,p=>by omega
 |m,i,n+1,hi,p=>by
  have q:=b.1;unfold eH;cases m with
  |zero =>have hd:ts.drop i=[]:=WV (by omega);rw[hd,Wj (by omega)];rfl
  |succ m =>
   have a:i<ts.length:=by omega
   have f:ts[i]?=some ts[i]:=Wg a;have hd:ts.drop i=ts[i]::ts.drop (i+1):=Xk a;have hf:ts[i].f4.length≤1050000:=(hs.2 ts[i] (Xs _)).2.2.1;have e:inc (i:Int)=((i+1:Nat):Int):=by rw[mN _ (by omega) (by omega)];omega
   have c:=b.2 i _ f;have g:=K9 ts o i ts[i] hs.1 (by omega) f hf ts[i].f4.length 0 9223372036854775808 true (by omega) (by omega);have h:=N7 ts hs b o l m (i+1) n (by omega) (by omega);rw[WK,WJ]at g;have d:gC ts o (i:Int) 9223372036854775808 true (0:Int)=some (.x4 (vr ts o ts[i])):=g;rw[Wi (by omega),Wn,Wa (by omega),hd,d,e];unfold fY;rw[c];cases ck o (i:Int)with
   |true=>rw[Wn,h];rfl
   |false =>
    rw[Wu,V9];cases vr ts o ts[i]with
    |false =>simp only[h];rfl
    |true =>
     have stop:∀w,eH ts n w (inc (ts.length:Int))=some (.x2 w):=fun w=>by
      obtain⟨n,rfl⟩:∃j,n=j+1:=⟨n-1,by omega⟩
      unfold eH;rw[mN _ (by omega) (by omega),Wj (by omega)];rfl
     simp only[stop];rw[Wa (by simp;omega)];rfl
theorem Dg (ts:List GTask)(hs:ab.sm ts)(a:dn ts):∀(l:List GTask)(i:Nat)(o:List Int),o.length+l.length≤1000→iN ts l i o=some (.x0 (kQ ts l.length o))
 |[],i,o,_=>rfl
 |x::l,i,o,b=>by
  have c:=a.1;simp only[WL]at b;unfold iN;have r:=N7 ts hs a o (by omega) ts.length 0 9223372036854775808 (by omega) (by omega);rw[WK]at r;refine(Wy (Option.bind · _) r).trans ?_;rw[V9];simp only[WL];unfold kQ;cases q:fY o ts ts 0 with
  |none =>
   simp only;rw[Dg ts hs a l (i+1) o (by omega)];have:∀k,kQ ts k o=o:=fun k=>by
    cases k with
    |zero=>rfl
    |succ k=>unfold kQ;rw[q]
   rw[this]
  |some k =>simp only;exact Dg ts hs a l (i+1) _ (by simp;omega)
theorem Tx (ts:List GTask)(hs:ab.sm ts)(a:dn ts):qQ ts=some (bX ts):=by have b:=a.1;unfold qQ;rw[Wa (by omega),Dg ts hs a ts 0 [] (by simp;omega)];rfl
theorem ul {q0:Kd}(a:List GTask)(h:ab.sm a)(b:dn a):Does E 32 [.one (V8 5 (a.map (VQ q0)))] [(false,[V7 1 ((bX a).map etI)])]:=by exact Lh a _ (Tx a h b)
inductive Cd where|ret (v2:Bool)|x0
def gO (a b:Y9)(c:Int)(d:Bool)(e v28:List Y9)(f g:Int):US:=stL 54 [(1,.box () [tS a,tS b,tI c,tB d,V8 1 (e.map etS)]),(28,.one (V8 1 (v28.map etS))),(29,V2 f),(30,V2 g)]
def nn (a:Bool):US:=stL 54 [(2,V3 a)]
def sT  : US:=stL 54 []
abbrev ot:US→Exit→US→Prop:=Round E 95 (an Tryz.f95 0)
def MC (a b:Y9)(c:Int)(d:Bool)(e v28:List Y9)(f g:Int):Cd→Prop| .ret h=>Loops E 95 (an Tryz.f95 0) (gO a b c d e v28 f g) .ret (nn h)| .x0=>Loops E 95 (an Tryz.f95 0) (gO a b c d e v28 f g) (.exit 0) (sT)
noncomputable def i6 (a:Y9)(b:List Y9):List Y9→Nat→Bool→Option Cd|[],i,c=>some (.x0)|hd::rest,i,c=>cond (hd.toList==a.toList) (some (.ret false)) (cond (decide ((i:Int)>(0:Int))) ((ak b (IntKind.wrap .i64 ((i:Int)-(1:Int)))).bind fun g1=>cond (Op.bytesLess hd.toList g1.toList ||hd.toList==g1.toList) (some (.ret false)) (i6 a b rest (i+1) c)) (i6 a b rest (i+1) c))
theorem MB (b d:Y9)(e:Int)(c v28:List Y9)(rest:List Y9):∀(i:Nat)(a:Bool),(v28).drop i=rest→v28.length≤9223372036854775807→Ans (i6 b c rest i a) (MC b d e a c v28 (v28.length:Int) (i:Int)):=by
 induction rest with
 |nil =>intro i a f j;have hb:=aK f;unfold i6;exact Vz (VB (show ot (gO b d e a c v28 (v28.length:Int) (i:Int)) (.exit 0) (sT)from RP [.b false] (AC hb<|AN)) (by intro h;cases h))
 |cons hd rest o =>
  intro i a f j;have hb:=aF f;have p:=aG f j;have g:=au f;have k:=aE f;unfold i6;apply VC<;>intro l
  ·exact Vz (VB (show ot (gO b d e a c v28 (v28.length:Int) (i:Int)) .ret (nn false)from RP [.b true,.row (etS hd),.b true] (AC hb<|AR etS k<|AC l<|AN)) (by intro h;cases h))
  ·apply VC<;>intro m
   ·apply VD;intro g1 q;apply VC<;>intro s
    ·exact Vz (VB (show ot (gO b d e a c v28 (v28.length:Int) (i:Int)) .ret (nn false)from RP [.b true,.row (etS hd),.b false,.b true,.row (etS g1),.b true] (AC hb<|AR etS k<|AC l<|AC m<|AR etS q<|AC s<|AN)) (by intro h;cases h))
    ·exact(o (i+1) a g j).mono fun y n=>by have r:ot (gO b d e a c v28 (v28.length:Int) (i:Int)) .normal (gO b d e a c v28 (v28.length:Int) (inc (i:Int))):=RP [.b true,.row (etS hd),.b false,.b true,.row (etS g1),.b false] (AC hb<|AR etS k<|AC l<|AC m<|AR etS q<|AC s<|AN);rw[p]at r;cases y<;>exact VA r n
   ·exact(o (i+1) a g j).mono fun y n=>by have r:ot (gO b d e a c v28 (v28.length:Int) (i:Int)) .normal (gO b d e a c v28 (v28.length:Int) (inc (i:Int))):=RP [.b true,.row (etS hd),.b false,.b false] (AC hb<|AR etS k<|AC l<|AC m<|AN);rw[p]at r;cases y<;>exact VA r n
noncomputable def tN (a:GTask):Option (Bool):=
  if a.f0.size≤2000000 then cond (fe a.f0)
   (cond ((aP a.f1)==(0:Int))
    (some (false))
    (cond (ag a.f2 0 3)
     (cond (decide ((a.f4.length:Int)>(4:Int)))
      (some (false))
      (if a.f4.length≤9223372036854775807 then(i6 a.f0 a.f4 a.f4 0 a.f3).bind fun y=>match y with
       | .ret b=>(some (b))
       | .x0=>(some (true))else none))
     (some (false))))
   (some (false))else none
theorem Pe (x0:GTask):Ans (tN x0) (fun r=>Does E 95 [.agg (VQ .far x0)] [VY r]):=by
 unfold tN;apply VE;intro a;apply VC<;>intro b
 ·apply VC<;>intro c
  ·exact Vz (DP Tryz.f95 [rT,.ret [VX (aP x0.f1)],.b true] (AD (VH (dU x0.f0 a) b)<|AD (fO x0.f1)<|AC c<|AN))
  ·apply VC<;>intro e
   ·apply VC<;>intro g
    ·exact Vz (DP Tryz.f95 [rT,.ret [VX (aP x0.f1)],.b false,rT,V5 (x0.f4.length:Int),.b true] (AD (VH (dU x0.f0 a) b)<|AD (fO x0.f1)<|AC c<|AD (VH (ao x0.f2 0 3) e)<|ALn x0.f4 etS<|AC g<|AN))
    ·apply VE;intro h;apply VD;intro y f;replace f:=MB x0.f0 x0.f1 x0.f2 x0.f4 x0.f4 x0.f4 0 x0.f3 rfl h y f;cases y with
     |ret d =>have i:=f;exact Vz (DP Tryz.f95 [rT,.ret [VX (aP x0.f1)],.b false,rT,V5 (x0.f4.length:Int),.b false,V5 (x0.f4.length:Int),.lp .ret (nn d)] (AD (VH (dU x0.f0 a) b)<|AD (fO x0.f1)<|AC c<|AD (VH (ao x0.f2 0 3) e)<|ALn x0.f4 etS<|AC g<|ALn x0.f4 etS<|AL i<|AN))
     |x0 =>have i:=f;exact Vz (DP Tryz.f95 [rT,.ret [VX (aP x0.f1)],.b false,rT,V5 (x0.f4.length:Int),.b false,V5 (x0.f4.length:Int),.lp (.exit 0) (sT)] (AD (VH (dU x0.f0 a) b)<|AD (fO x0.f1)<|AC c<|AD (VH (ao x0.f2 0 3) e)<|ALn x0.f4 etS<|AC g<|ALn x0.f4 etS<|AL i<|AN))
   ·exact Vz (DP Tryz.f95 [rT,.ret [VX (aP x0.f1)],.b false,rF] (AD (VH (dU x0.f0 a) b)<|AD (fO x0.f1)<|AC c<|AD (VH (ao x0.f2 0 3) e)<|AN))
 ·exact Vz (DP Tryz.f95 [rF] (AD (VH (dU x0.f0 a) b)<|AN))
inductive Bf where|ret (v4:Bool)|x0
def bY (q0:Kd)(v0:List GTask)(a b:Y9)(c:Int)(d:Bool)(e:List Y9)(v6:Int):US:=stL 78 [(0,.one (V8 5 (v0.map (VQ q0)))),(5,.box () [tS a,tS b,tI c,tB d,V8 1 (e.map etS)]),(6,V2 v6)]
def e7 (q0:Kd)(a:Bool):US:=stL 78 [(4,V3 a)]
def nG (q0:Kd)  : US:=stL 78 []
abbrev dH:US→Exit→US→Prop:=Round E 88 (an Tryz.f88 0)
def Lj {q0:Kd}(v0:List GTask)(a b:Y9)(c:Int)(d:Bool)(e:List Y9)(v6:Int):Bf→Prop| .ret f=>Loops E 88 (an Tryz.f88 0) (bY q0 v0 a b c d e v6) .ret (e7 q0 f)| .x0=>Loops E 88 (an Tryz.f88 0) (bY q0 v0 a b c d e v6) (.exit 0) (nG q0)
theorem FQ {q0:Kd}(v0:List GTask)(c d:Y9)(e:Int)(f:Bool)(a:List Y9)(v6:Int)(b:Y9)(g:(decide (v6<(a.length:Int)))=true)(h:ak a v6=some b)(i:v0.length≤1050000)(j:(decide ((aw v0 b)<(0:Int)))=true):dH (bY q0 v0 c d e f a v6) .ret (e7 q0 false):=
 RP [V5 (a.length:Int),.b true,.row (etS b),.ret [VX (aw v0 b)],.b true] (ALn a etS<|AC g<|AR etS h<|AV (ψ:=fun k=>E.C k 61 [.one (V8 5 (v0.map (VQ q0))),V4 b]=some [VX (aw v0 b)]) (gZ v0 b i)<|AC j<|AN)
theorem FR {q0:Kd}(v0:List GTask)(c d:Y9)(e:Int)(f:Bool)(a:List Y9)(v6:Int)(b:Y9)(h:(decide (v6<(a.length:Int)))=true)(g:ak a v6=some b)(i:v0.length≤1050000)(j:(decide ((aw v0 b)<(0:Int)))=false)(l:(b.toList==c.toList)=true):dH (bY q0 v0 c d e f a v6) .ret (e7 q0 false):=
 RP [V5 (a.length:Int),.b true,.row (etS b),.ret [VX (aw v0 b)],.b false,.row (etS b),.b true] (ALn a etS<|AC h<|AR etS g<|AV (ψ:=fun k=>E.C k 61 [.one (V8 5 (v0.map (VQ q0))),V4 b]=some [VX (aw v0 b)]) (gZ v0 b i)<|AC j<|AR etS g<|AC l<|AN)
theorem FS {q0:Kd}(v0:List GTask)(c d:Y9)(e:Int)(f:Bool)(a:List Y9)(v6:Int)(b g1:Y9)(h:(decide (v6<(a.length:Int)))=true)(g:ak a v6=some b)(i:v0.length≤1050000)(j:(decide ((aw v0 b)<(0:Int)))=false)(l:(b.toList==c.toList)=false)(m:(decide (v6>(0:Int)))=true)(n:ak a (IntKind.wrap .i64 (v6-(1:Int)))=some g1)(o:(!Op.bytesLess g1.toList b.toList)=true):dH (bY q0 v0 c d e f a v6) .ret (e7 q0 false):=
 RP [V5 (a.length:Int),.b true,.row (etS b),.ret [VX (aw v0 b)],.b false,.row (etS b),.b false,.b true,.row (etS g1),.row (etS b),.b true] (ALn a etS<|AC h<|AR etS g<|AV (ψ:=fun k=>E.C k 61 [.one (V8 5 (v0.map (VQ q0))),V4 b]=some [VX (aw v0 b)]) (gZ v0 b i)<|AC j<|AR etS g<|AC l<|AC m<|AR etS n<|AR etS g<|AC o<|AN)
theorem FT {q0:Kd}(v0:List GTask)(b d:Y9)(e:Int)(f:Bool)(a:List Y9)(v6:Int)(c g1:Y9)(h:(decide (v6<(a.length:Int)))=true)(g:ak a v6=some c)(i:v0.length≤1050000)(j:(decide ((aw v0 c)<(0:Int)))=false)(l:(c.toList==b.toList)=false)(m:(decide (v6>(0:Int)))=true)(n:ak a (IntKind.wrap .i64 (v6-(1:Int)))=some g1)(o:(!Op.bytesLess g1.toList c.toList)=false):dH (bY q0 v0 b d e f a v6) .normal (bY q0 v0 b d e f a (inc v6)):=
 RP [V5 (a.length:Int),.b true,.row (etS c),.ret [VX (aw v0 c)],.b false,.row (etS c),.b false,.b true,.row (etS g1),.row (etS c),.b false] (ALn a etS<|AC h<|AR etS g<|AV (ψ:=fun k=>E.C k 61 [.one (V8 5 (v0.map (VQ q0))),V4 c]=some [VX (aw v0 c)]) (gZ v0 c i)<|AC j<|AR etS g<|AC l<|AC m<|AR etS n<|AR etS g<|AC o<|AN)
theorem FU {q0:Kd}(v0:List GTask)(b d:Y9)(e:Int)(f:Bool)(a:List Y9)(v6:Int)(c:Y9)(h:(decide (v6<(a.length:Int)))=true)(g:ak a v6=some c)(i:v0.length≤1050000)(j:(decide ((aw v0 c)<(0:Int)))=false)(l:(c.toList==b.toList)=false)(m:(decide (v6>(0:Int)))=false):dH (bY q0 v0 b d e f a v6) .normal (bY q0 v0 b d e f a (inc v6)):=
 RP [V5 (a.length:Int),.b true,.row (etS c),.ret [VX (aw v0 c)],.b false,.row (etS c),.b false,.b false] (ALn a etS<|AC h<|AR etS g<|AV (ψ:=fun k=>E.C k 61 [.one (V8 5 (v0.map (VQ q0))),V4 c]=some [VX (aw v0 c)]) (gZ v0 c i)<|AC j<|AR etS g<|AC l<|AC m<|AN)
theorem FV {q0:Kd}(v0:List GTask)(b c:Y9)(d:Int)(e:Bool)(a:List Y9)(v6:Int)(f:(decide (v6<(a.length:Int)))=false):dH (bY q0 v0 b c d e a v6) (.exit 0) (nG q0):=
 RP [V5 (a.length:Int),.b false] (ALn a etS<|AC f<|AN)
noncomputable def ii (v0:List GTask)(a:Y9)(b:List Y9):List Y9→Nat→Bool→Option Bf|[],i,c=>some (.x0)|hd::rest,i,c=>if v0.length≤1050000 then cond (decide ((aw v0 hd)<(0:Int))) (some (.ret false)) (cond (hd.toList==a.toList) (some (.ret false)) (cond (decide ((i:Int)>(0:Int))) ((ak b (IntKind.wrap .i64 ((i:Int)-(1:Int)))).bind fun g1=>cond (!Op.bytesLess g1.toList hd.toList) (some (.ret false)) (ii v0 a b rest (i+1) c)) (ii v0 a b rest (i+1) c)))else none
theorem Li {q0:Kd}(v0:List GTask)(c d:Y9)(e:Int)(b:List Y9)(rest:List Y9):∀(i:Nat)(a:Bool),(b).drop i=rest→b.length≤9223372036854775807→Ans (ii v0 c b rest i a) (Lj (q0:=q0) v0 c d e a b (i:Int)):=by
 induction rest with
 |nil =>intro i a f m;have hb:=aK f;unfold ii;exact Vz (VB (show dH (bY q0 v0 c d e a b (i:Int)) (.exit 0) (nG q0)from FV (q0:=q0) v0 c d e a b (i:Int) hb) (by intro h;cases h))
 |cons hd rest q =>
  intro i a f m;have hb:=aF f;have s:=aG f m;have g:=au f;have j:=aE f;unfold ii;apply VE;intro k;apply VC<;>intro l
  ·exact Vz (VB (show dH (bY q0 v0 c d e a b (i:Int)) .ret (e7 q0 false)from FQ (q0:=q0) v0 c d e a b (i:Int) hd hb j k l) (by intro h;cases h))
  ·apply VC<;>intro n
   ·exact Vz (VB (show dH (bY q0 v0 c d e a b (i:Int)) .ret (e7 q0 false)from FR (q0:=q0) v0 c d e a b (i:Int) hd hb j k l n) (by intro h;cases h))
   ·apply VC<;>intro o
    ·apply VD;intro g1 t;apply VC<;>intro u
     ·exact Vz (VB (show dH (bY q0 v0 c d e a b (i:Int)) .ret (e7 q0 false)from FS (q0:=q0) v0 c d e a b (i:Int) hd g1 hb j k l n o t u) (by intro h;cases h))
     ·exact(q (i+1) a g m).mono fun y p=>by have r:dH (bY q0 v0 c d e a b (i:Int)) .normal (bY q0 v0 c d e a b (inc (i:Int))):=FT (q0:=q0) v0 c d e a b (i:Int) hd g1 hb j k l n o t u;rw[s]at r;cases y<;>exact VA r p
    ·exact(q (i+1) a g m).mono fun y p=>by have r:dH (bY q0 v0 c d e a b (i:Int)) .normal (bY q0 v0 c d e a b (inc (i:Int))):=FU (q0:=q0) v0 c d e a b (i:Int) hd hb j k l n o;rw[s]at r;cases y<;>exact VA r p
noncomputable def sa (c:List GTask)(d:Int):Option (Bool):=
  (ak c d).bind fun a=>if a.f0.size≤2000000 then cond (fe a.f0)
   (if c.length≤1050000 then cond ((aw c a.f0) != d)
    (some (false))
    (cond ((aP a.f1)==(0:Int))
     (some (false))
     (cond (ag a.f2 0 3)
      (if a.f4.length≤9223372036854775807 then(ii c a.f0 a.f4 a.f4 0 a.f3).bind fun y=>match y with
       | .ret b=>(some (b))
       | .x0=>(some (true))else none)
      (some (false))))else none)
   (some (false))else none
theorem Nl {q0:Kd}(x0:List GTask)(n:Int):Ans (sa x0 n) (fun r=>Does E 88 [.one (V8 5 (x0.map (VQ q0))),V2 n] [VY r]):=by
 unfold sa;apply VD;intro a b;apply VE;intro c;apply VC<;>intro d
 ·apply VE;intro e;apply VC<;>intro f
  ·exact Vz (DP Tryz.f88 [.row ((VQ q0) a),rT,.ret [VX (aw x0 a.f0)],.b true] (AR (VQ q0) b<|AD (VH (dv a.f0 c) d)<|AV (ψ:=fun k=>E.C k 61 [.one (V8 5 (x0.map (VQ q0))),V4 a.f0]=some [VX (aw x0 a.f0)]) (gZ x0 a.f0 e)<|AC f<|AN))
  ·apply VC<;>intro h
   ·exact Vz (DP Tryz.f88 [.row ((VQ q0) a),rT,.ret [VX (aw x0 a.f0)],.b false,.ret [VX (aP a.f1)],.b true] (AR (VQ q0) b<|AD (VH (dv a.f0 c) d)<|AV (ψ:=fun k=>E.C k 61 [.one (V8 5 (x0.map (VQ q0))),V4 a.f0]=some [VX (aw x0 a.f0)]) (gZ x0 a.f0 e)<|AC f<|AD (kE a.f1)<|AC h<|AN))
   ·apply VC<;>intro j
    ·apply VE;intro l;apply VD;intro y i;replace i:=Li (q0:=q0) x0 a.f0 a.f1 a.f2 a.f4 a.f4 0 a.f3 rfl l y i;cases y with
     |ret g =>have m:=i;exact Vz (DP Tryz.f88 [.row ((VQ q0) a),rT,.ret [VX (aw x0 a.f0)],.b false,.ret [VX (aP a.f1)],.b false,rT,.lp .ret (e7 q0 g)] (AR (VQ q0) b<|AD (VH (dv a.f0 c) d)<|AV (ψ:=fun k=>E.C k 61 [.one (V8 5 (x0.map (VQ q0))),V4 a.f0]=some [VX (aw x0 a.f0)]) (gZ x0 a.f0 e)<|AC f<|AD (kE a.f1)<|AC h<|AD (VH (ae a.f2 0 3) j)<|AL m<|AN))
     |x0 =>have m:=i;exact Vz (DP Tryz.f88 [.row ((VQ q0) a),rT,.ret [VX (aw x0 a.f0)],.b false,.ret [VX (aP a.f1)],.b false,rT,.lp (.exit 0) (nG q0)] (AR (VQ q0) b<|AD (VH (dv a.f0 c) d)<|AV (ψ:=fun k=>E.C k 61 [.one (V8 5 (x0.map (VQ q0))),V4 a.f0]=some [VX (aw x0 a.f0)]) (gZ x0 a.f0 e)<|AC f<|AD (kE a.f1)<|AC h<|AD (VH (ae a.f2 0 3) j)<|AL m<|AN))
    ·exact Vz (DP Tryz.f88 [.row ((VQ q0) a),rT,.ret [VX (aw x0 a.f0)],.b false,.ret [VX (aP a.f1)],.b false,rF] (AR (VQ q0) b<|AD (VH (dv a.f0 c) d)<|AV (ψ:=fun k=>E.C k 61 [.one (V8 5 (x0.map (VQ q0))),V4 a.f0]=some [VX (aw x0 a.f0)]) (gZ x0 a.f0 e)<|AC f<|AD (kE a.f1)<|AC h<|AD (VH (ae a.f2 0 3) j)<|AN))
 ·exact Vz (DP Tryz.f88 [.row ((VQ q0) a),rF] (AR (VQ q0) b<|AD (VH (dv a.f0 c) d)<|AN))
def asc (self:Y9):List Y9→Option Y9→Bool
 |[],_=>true
 |x::l,p => !(x.toList==self.toList)&&(match p with|some y=>Op.bytesLess y.toList x.toList|none=>true)&&asc self l (some x)
theorem C4:∀a b:List UInt8,(Op.bytesLess a b ||a==b)= !Op.bytesLess b a
 |[],[]=>rfl
 |[],_::_=>rfl
 |_::_,[]=>rfl
 |x::a,y::b=>by
  have g:=C4 a b;unfold Op.bytesLess;have e:(x::a==y::b)=(x==y&&a==b):=rfl;rw[e];rcases Yi x.toNat y.toNat with h|h|h
  ·have d:x<y:=XG.2 h;have c:¬y<x:=fun q=>by have:=XG.1 q;omega
   have f:(y==x)=false:=by rw[W5];intro q;subst q;omega
   simp[d,c,f]
  ·have i:x=y:=Y5.1 h;subst i;have c:¬x<x:=fun q=>by have:=XG.1 q;omega
   simp only[c,decide_false,YR,beq_self_eq_true,WJ];exact g
  ·have d:y<x:=XG.2 h;have c:¬x<y:=fun q=>by have:=XG.1 q;omega
   have f:(x==y)=false:=by rw[W5];intro q;subst q;omega
   simp[d,c,f]
theorem Ci:∀a:List UInt8,Op.bytesLess a a=false
 |[]=>rfl
 |x::a=>by
  unfold Op.bytesLess;have b:¬x<x:=fun q=>by have:=XG.1 q;omega
  simp[b,Ci a]
theorem Er:∀{a b c:List UInt8},Op.bytesLess a b=true→Op.bytesLess b c=true→Op.bytesLess a c=true
 |[],[],_,h,_=>by cases h
 |[],_::_,[],_,h=>by cases h
 |[],_::_,_::_,_,_=>rfl
 |_::_,[],_,h,_=>by cases h
 |_::_,_::_,[],_,h=>by cases h
 |x::a,y::b,z::c,e,d=>by
  unfold Op.bytesLess at *;simp only[YF,W3,Ww,XW,XG]at *;rcases e with e|⟨rfl,e⟩
  ·rcases d with d|⟨rfl,d⟩
   ·exact .inl (by omega)
   ·exact .inl e
  ·rcases d with d|⟨rfl,d⟩
   ·exact .inl d
   ·exact .inr ⟨rfl,Er e d⟩
theorem vk (self:Y9):∀(l:List Y9)(p:Option Y9),asc self l p=true→(l.map tx).Nodup∧∀y,p=some y→∀x∈l,Op.bytesLess (tx y) (tx x)=true
 |[],p,_=>⟨by simp,fun y _ x hx=>by cases hx⟩
 |z::l,p,h=>by
  unfold asc at h;simp only[Ww]at h;obtain⟨c,d⟩:=vk self l (some z) h.2;have a:=d z rfl;refine⟨?_,fun y e x hx=>?_⟩
  ·rw[Wv,YG];refine⟨fun q=>?_,c⟩;obtain⟨w,f,e⟩:=Wx.1 q;have:=a w f;rw[e,Ci]at this;cases this
  ·subst e;have b:Op.bytesLess (tx y) (tx z)=true:=by have:=h.1.2;simp only[Fe]at this;exact this
   rcases WE.1 hx with rfl|hx
   ·exact b
   ·exact Er b (a x hx)
theorem Oc {α:Type}[DecidableEq α]:∀{l m:List α},l.Nodup→(∀x∈l,x∈m)→l.length≤m.length
 |[],_,_,_=>Yg _
 |x::l,m,h,a=>by
  rw[YG]at h;have b:=a x (by simp);have:=Oc (l:=l) (m:=m.erase x) h.2 fun y c=>(List.mem_erase_of_ne (fun e=>h.1 (by rw[←e];exact c))).2 (a y (by simp[c]))
  rw[Y1 b]at this;have:0<m.length:=List.length_pos_of_mem b;simp only[WL];omega
theorem S1 (self:Y9)(ax:List Y9)(c:ax.length≤1050000):∀(rest:List Y9)(i:Nat)(z:Bool),ax.drop i=rest→i6 self ax rest i z=some (cond (asc self rest (if i=0 then none else ax[i-1]?)) .x0 (.ret false))
 |[],i,z,_=>rfl
 |x::rest,i,z,h=>by
  have a:=S1 self ax c rest (i+1) z (au h);have d:(if i+1=0 then none else ax[i+1-1]?)=some x:=by rw[Wo (by omega)];show ax[i]?=some x;rw[←Yo,h];rfl
  rw[d]at a;unfold i6 asc;rw[a];cases x.toList==self.toList with
  |true=>rfl
  |false =>
   rw[Wu];by_cases q:i=0
   ·subst q;rw[Wj (by omega),Wa rfl,Wu];rfl
   ·have hi:i-1<ax.length:=by
     rcases Wl i ax.length with g|g
     ·omega
     ·rw[WV g]at h;cases h
    have e:i≤ax.length:=by
     rcases Wl i ax.length with g|g
     ·omega
     ·rw[WV g]at h;cases h
    have b:ax[i-1]?=some ax[i-1]:=Wg hi;have f:ak ax (IntKind.wrap .i64 ((i:Int)-1))=some ax[i-1]:=by rw[du _ (by omega) (by omega),show((i:Int)-1)=((i-1:Nat):Int) by omega,cp,b]
    rw[Wi (by omega),Wo q,Wn,f,V9,b,C4];simp only[Yp,WJ];cases Op.bytesLess ax[i-1].toList x.toList<;>rfl
theorem S2 (ts:List GTask)(a:ts.length≤1050000)(self:Y9)(ax:List Y9)(d:ax.length≤1050000):∀(rest:List Y9)(i:Nat)(z:Bool),ax.drop i=rest→ii ts self ax rest i z=some (cond (asc self rest (if i=0 then none else ax[i-1]?)&&rest.all fun n=>decide (0≤aw ts n)) .x0 (.ret false))
 |[],i,z,_=>rfl
 |x::rest,i,z,h=>by
  have b:=S2 ts a self ax d rest (i+1) z (au h);have e:(if i+1=0 then none else ax[i+1-1]?)=some x:=by rw[Wo (by omega)];show ax[i]?=some x;rw[←Yo,h];rfl
  rw[e]at b;unfold ii asc;rw[b,Wa a,Xh];by_cases w:aw ts x<0
  ·rw[Wi w,Wj (by omega:¬ 0≤aw ts x),Yl,XL];rfl
  ·rw[Wj w,Wi (by omega:0≤aw ts x),WJ,Wu];cases x.toList==self.toList with
   |true=>rfl
   |false =>
    rw[Wu];by_cases q:i=0
    ·subst q;rw[Wj (by omega),Wa rfl,Wu];rfl
    ·have hi:i-1<ax.length:=by
      rcases Wl i ax.length with g|g
      ·omega
      ·rw[WV g]at h;cases h
     have f:i≤ax.length:=by
      rcases Wl i ax.length with g|g
      ·omega
      ·rw[WV g]at h;cases h
     have c:ax[i-1]?=some ax[i-1]:=Wg hi;have j:ak ax (IntKind.wrap .i64 ((i:Int)-1))=some ax[i-1]:=by rw[du _ (by omega) (by omega),show((i:Int)-1)=((i-1:Nat):Int) by omega,cp,c]
     rw[Wi (by omega),Wo q,Wn,j,V9,c];simp only[Yp,WJ];cases Op.bytesLess ax[i-1].toList x.toList<;>rfl
noncomputable def u9 (t:GTask):Bool:=fe t.f0&&((aP t.f1 != 0)&&(ag t.f2 0 3&&(decide (t.f4.length≤4)&&asc t.f0 t.f4 none)))
noncomputable def jI (ts:List GTask)(i:Int)(t:GTask):Bool:=fe t.f0&&((aw ts t.f0==i)&&((aP t.f1 != 0)&&(ag t.f2 0 3&&(asc t.f0 t.f4 none&&t.f4.all fun n=>decide (0≤aw ts n)))))
noncomputable def pC (ts:List GTask)(i:Int):Bool:=match ak ts i with|some t=>jI ts i t|none=>false
theorem Ob {t:GTask}(h:ab.sm t):t.f0.size≤2000000:=by have:t.f0.size≤1050000:=h.1;omega
theorem SU (t:GTask)(h:ab.sm t):tN t=some (u9 t):=by
 have a:t.f4.length≤1050000:=h.2.2.1;unfold tN u9;rw[Wa (Ob h)];cases fe t.f0 with
 |false=>rfl
 |true =>
  have e:(aP t.f1 != 0)= !(aP t.f1==0):=rfl;rw[Wn,WJ,e];cases aP t.f1==0 with
  |true=>rfl
  |false =>
   rw[Wu,Yp,WJ];cases ag t.f2 0 3 with
   |false=>rfl
   |true =>
    rw[Wn,WJ];by_cases q:t.f4.length≤4
    ·rw[Wj (by omega),Wu,Wi q,Wa (by omega),S1 t.f0 t.f4 a t.f4 0 t.f3 rfl,Wa rfl,WJ];cases asc t.f0 t.f4 none<;>rfl
    ·rw[Wi (by omega),Wj q];rfl
theorem NC (ts:List GTask)(i:Int)(h:ab.sm ts)(hi:0≤i∧i<(ts.length:Int)):sa ts i=some (pC ts i):=by
 obtain⟨t,b,c⟩:=cA hi;have a:=h.2 t c;have d:t.f4.length≤1050000:=a.2.2.1;unfold sa pC jI;rw[b,V9,Wa (Ob a)];simp only;cases fe t.f0 with
 |false=>rfl
 |true =>
  have f:(aw ts t.f0 != i)= !(aw ts t.f0==i):=rfl;have e:(aP t.f1 != 0)= !(aP t.f1==0):=rfl;rw[Wn,WJ,Wa h.1,f,e];cases aw ts t.f0==i with
  |false=>rfl
  |true =>
   rw[Xd,Wu,WJ];cases aP t.f1==0 with
   |true=>rfl
   |false =>
    rw[Wu,Yp,WJ];cases ag t.f2 0 3 with
    |false=>rfl
    |true =>rw[Wn,WJ,Wa (by omega),S2 ts h.1 t.f0 t.f4 d t.f4 0 t.f3 rfl,Wa rfl];cases(asc t.f0 t.f4 none&&t.f4.all fun n=>decide (0≤aw ts n))<;>rfl
theorem P7 (ts:List GTask)(f:ts.length≤4)(i:Int)(t:GTask):jI ts i t=(u9 t&&((aw ts t.f0==i)&&t.f4.all fun n=>decide (0≤aw ts n))):=by
 unfold jI u9;by_cases q:asc t.f0 t.f4 none=true∧(t.f4.all fun n=>decide (0≤aw ts n))=true
 ·have a:t.f4.length≤4:=by
   have:=Oc (l:=t.f4.map tx) (m:=ts.map fun u=>tx u.f0) (vk t.f0 t.f4 none q.1).1 (fun x b=>by obtain⟨n,c,rfl⟩:=Wx.1 b;have:=Wt.1 q.2 n c;obtain⟨u,d,e⟩:=NB (X1 this);exact Wx.2 ⟨u,d,e⟩);simp only[WH]at this;omega
  rw[Wi a,q.1,q.2];cases fe t.f0<;>cases aw ts t.f0==i<;>cases aP t.f1 != 0<;>cases ag t.f2 0 3<;>rfl
 ·have hf:(asc t.f0 t.f4 none&&t.f4.all fun n=>decide (0≤aw ts n))=false:=by rw[←X7,Ww];exact q
  rw[hf];revert hf;generalize (t.f4.all fun n=>decide (0≤aw ts n))=B;generalize asc t.f0 t.f4 none=A;generalize decide (t.f4.length≤4)=C;intro hf;cases A<;>cases B<;>simp at hf<;>cases fe t.f0<;>cases aw ts t.f0==i<;>cases aP t.f1 != 0<;>cases ag t.f2 0 3<;>cases C<;>rfl
theorem tA (a:GTask)(h:ab.sm a):Does E 95 [.agg (VQ .far a)] [VY (u9 a)]:=by exact Pe a _ (SU a h)
theorem BP {q0:Kd}(a:List GTask)(b:Int)(h:ab.sm a)(hi:0≤b∧b<(a.length:Int)):Does E 88 [.one (V8 5 (a.map (VQ q0))),V2 b] [VY (pC a b)]:=by exact Nl a b _ (NC a b h hi)
noncomputable def tK (a:Y9):Option (Bool):=cond ((ay a).2) (if ab.sm ((ay a).1)then some (((bq ((ay a).1)).1).toList==a.toList)else none) (if ab.sm ((ay a).1)then some (false)else none)
theorem O6 (a:Y9):Ans (tK a) (fun r=>Does E 94 [V4 a] [VY r]):=by
 unfold tK;apply VC<;>intro c
 ·apply VE;intro b;exact Vz (DP Tryz.f94 [.ret [(true,VJ .own ((ay a).1)),VY true],.ret [VZ ((bq ((ay a).1)).1),VY ((bq ((ay a).1)).2)]] (AD (vg a c)<|AD (zD ((ay a).1) b)<|AN))
 ·apply VE;intro b;exact Vz (DP Tryz.f94 [.ret [(true,VJ .own ((ay a).1)),VY false],.ret [VZ ((bq ((ay a).1)).1),VY ((bq ((ay a).1)).2)]] (AD (vg a c)<|AD (zD ((ay a).1) b)<|AN))
noncomputable def li (s:Y9):Bool:=(ay s).2&&((bq (ay s).1).1.toList==s.toList)
theorem Sc (s:Y9):tK s=some (li s):=by unfold tK li;simp only[KI s,WN];cases(ay s).2<;>rfl
theorem lh (a:Y9):Does E 94 [V4 a] [VY (li a)]:=by exact O6 a _ (Sc a)
inductive EH where|ret (v2:Bool)|x0
def nA (q0:Kd)(a b:Y9)(c d:Int)(e:Bool)(f:List GTask)(v7:Int):US:=stL 74 [(1,.box () [tS a,tS b,tI c,tI d,tB e,V8 5 (f.map (VQ q0))]),(7,V2 v7)]
def tb (q0:Kd)(a:Bool):US:=stL 74 [(2,V3 a)]
def uT (q0:Kd)(a b:Y9)(c d:Int)(e:Bool)(f:List GTask):US:=stL 74 [(1,.box () [tS a,tS b,tI c,tI d,tB e,V8 5 (f.map (VQ q0))])]
abbrev yy:US→Exit→US→Prop:=Round E 57 (an Tryz.f57 0)
def PP {q0:Kd}(a b:Y9)(c d:Int)(e:Bool)(f:List GTask)(v7:Int):EH→Prop| .ret g=>Loops E 57 (an Tryz.f57 0) (nA q0 a b c d e f v7) .ret (tb q0 g)| .x0=>Loops E 57 (an Tryz.f57 0) (nA q0 a b c d e f v7) (.exit 0) (uT q0 a b c d e f)
noncomputable def lz (a:List GTask):List GTask→Nat→Bool→Option EH|[],i,b=>some (.x0)|hd::rest,i,b=>if ab.sm a then if 0≤(i:Int)∧(i:Int)<(a.length:Int)then cond (pC a (i:Int)) (lz a rest (i+1) b) (some (.ret false))else none else none
theorem PO {q0:Kd}(c d:Y9)(e f:Int)(a:List GTask)(rest:List GTask):∀(i:Nat)(b:Bool),(a).drop i=rest→a.length≤9223372036854775807→Ans (lz a rest i b) (PP (q0:=q0) c d e f b a (i:Int)):=by
 induction rest with
 |nil =>intro i b g j;have hb:=aK g;unfold lz;exact Vz (VB (show yy (nA q0 c d e f b a (i:Int)) (.exit 0) (uT q0 c d e f b a)from RP [V5 (a.length:Int),.b false] (ALn a (VQ q0)<|AC hb<|AN)) (by intro h;cases h))
 |cons hd rest p =>
  intro i b g j;have hb:=aF g;have q:=aG g j;have l:=au g;have t:=aE g;unfold lz;apply VE;intro m;apply VE;intro n;apply VC<;>intro o
  ·exact(p (i+1) b l j).mono fun y s=>by have r:yy (nA q0 c d e f b a (i:Int)) .normal (nA q0 c d e f b a (inc (i:Int))):=RP [V5 (a.length:Int),.b true,rT] (ALn a (VQ q0)<|AC hb<|AV (ψ:=fun k=>E.C k 88 [.one (V8 5 (a.map (VQ q0))),V2 (i:Int)]=some [VY true]) (VF (BP a (i:Int) m n) (by rw[o]))<|AN);rw[q]at r;cases y<;>exact VA r s
  ·exact Vz (VB (show yy (nA q0 c d e f b a (i:Int)) .ret (tb q0 false)from RP [V5 (a.length:Int),.b true,rF] (ALn a (VQ q0)<|AC hb<|AV (ψ:=fun k=>E.C k 88 [.one (V8 5 (a.map (VQ q0))),V2 (i:Int)]=some [VY false]) (VF (BP a (i:Int) m n) (by rw[o]))<|AN)) (by intro h;cases h))
noncomputable def vK (a:GDag):Option (Bool):=
  cond ((ay a.f1).2)
   (if ab.sm ((ay a.f1).1)then if a.f0.size≤2000000 then cond (fe a.f0)
    (cond (!(((bq ((ay a.f1).1)).1).toList==a.f1.toList))
     (some (false))
     (cond (ag a.f3 0 68374079)
      (cond (ag a.f2 0 a.f3)
       (cond (ag (a.f5.length:Int) 1 4)
        (if a.f5.length≤9223372036854775807 then(lz a.f5 a.f5 0 a.f4).bind fun y=>match y with
         | .ret b=>(some (b))
         | .x0=>(if ab.sm a.f5 then if dn a.f5 then some (((bX a.f5).length:Int)==(a.f5.length:Int))else none else none)else none)
        (some (false)))
       (some (false)))
      (some (false))))
    (some (false))else none else none)
   (if ab.sm ((ay a.f1).1)then if a.f0.size≤2000000 then cond (fe a.f0)
    (some (false))
    (some (false))else none else none)
theorem RA {q0:Kd}(x0:GDag):Ans (vK x0) (fun r=>Does E 57 [.agg (VK .far q0 x0)] [VY r]):=by
 unfold vK;apply VC<;>intro f1
 ·apply VE;intro f2;apply VE;intro f3;apply VC<;>intro f4
  ·apply VC<;>intro a
   ·exact Vz (DP Tryz.f57 [.ret [(true,VJ .own ((ay x0.f1).1)),VY true],.ret [VZ ((bq ((ay x0.f1).1)).1),VY ((bq ((ay x0.f1).1)).2)],rT,.b true] (AD (fN x0.f1 f1)<|AD (fP ((ay x0.f1).1) f2)<|AD (VH (dv x0.f0 f3) f4)<|AC a<|AN))
   ·apply VC<;>intro b
    ·apply VC<;>intro e
     ·apply VC<;>intro g
      ·apply VE;intro h;apply VD;intro y f;replace f:=PO (q0:=q0) x0.f0 x0.f1 x0.f2 x0.f3 x0.f5 x0.f5 0 x0.f4 rfl h y f;cases y with
       |ret c =>
        have d:=f
        (try rw[f1]at d);exact Vz (DP Tryz.f57 [.ret [(true,VJ .own ((ay x0.f1).1)),VY true],.ret [VZ ((bq ((ay x0.f1).1)).1),VY ((bq ((ay x0.f1).1)).2)],rT,.b false,rT,rT,V5 (x0.f5.length:Int),rT,.lp .ret (tb q0 c)] (AD (fN x0.f1 f1)<|AD (fP ((ay x0.f1).1) f2)<|AD (VH (dv x0.f0 f3) f4)<|AC a<|AD (VH (ae x0.f3 0 68374079) b)<|AD (VH (ae x0.f2 0 x0.f3) e)<|ALn x0.f5 (VQ q0)<|AD (VH (ae (x0.f5.length:Int) 1 4) g)<|AL d<|AN))
       |x0 =>
        have d:=f;apply VE;intro j;apply VE;intro i
        (try rw[f1]at d);exact Vz (DP Tryz.f57 [.ret [(true,VJ .own ((ay x0.f1).1)),VY true],.ret [VZ ((bq ((ay x0.f1).1)).1),VY ((bq ((ay x0.f1).1)).2)],rT,.b false,rT,rT,V5 (x0.f5.length:Int),rT,.lp (.exit 0) (uT q0 x0.f0 x0.f1 x0.f2 x0.f3 x0.f4 x0.f5),.ret [(false,[V7 1 ((bX x0.f5).map etI)])],V5 ((bX x0.f5).length:Int),V5 (x0.f5.length:Int)] (AD (fN x0.f1 f1)<|AD (fP ((ay x0.f1).1) f2)<|AD (VH (dv x0.f0 f3) f4)<|AC a<|AD (VH (ae x0.f3 0 68374079) b)<|AD (VH (ae x0.f2 0 x0.f3) e)<|ALn x0.f5 (VQ q0)<|AD (VH (ae (x0.f5.length:Int) 1 4) g)<|AL d<|AV (ψ:=fun k=>E.C k 32 [.one (V8 5 (x0.f5.map (VQ q0)))]=some [(false,[V7 1 ((bX x0.f5).map etI)])]) (ul x0.f5 j i)<|ALn (bX x0.f5) etI<|ALn x0.f5 (VQ q0)<|AN))
      ·exact Vz (DP Tryz.f57 [.ret [(true,VJ .own ((ay x0.f1).1)),VY true],.ret [VZ ((bq ((ay x0.f1).1)).1),VY ((bq ((ay x0.f1).1)).2)],rT,.b false,rT,rT,V5 (x0.f5.length:Int),rF] (AD (fN x0.f1 f1)<|AD (fP ((ay x0.f1).1) f2)<|AD (VH (dv x0.f0 f3) f4)<|AC a<|AD (VH (ae x0.f3 0 68374079) b)<|AD (VH (ae x0.f2 0 x0.f3) e)<|ALn x0.f5 (VQ q0)<|AD (VH (ae (x0.f5.length:Int) 1 4) g)<|AN))
     ·exact Vz (DP Tryz.f57 [.ret [(true,VJ .own ((ay x0.f1).1)),VY true],.ret [VZ ((bq ((ay x0.f1).1)).1),VY ((bq ((ay x0.f1).1)).2)],rT,.b false,rT,rF] (AD (fN x0.f1 f1)<|AD (fP ((ay x0.f1).1) f2)<|AD (VH (dv x0.f0 f3) f4)<|AC a<|AD (VH (ae x0.f3 0 68374079) b)<|AD (VH (ae x0.f2 0 x0.f3) e)<|AN))
    ·exact Vz (DP Tryz.f57 [.ret [(true,VJ .own ((ay x0.f1).1)),VY true],.ret [VZ ((bq ((ay x0.f1).1)).1),VY ((bq ((ay x0.f1).1)).2)],rT,.b false,rF] (AD (fN x0.f1 f1)<|AD (fP ((ay x0.f1).1) f2)<|AD (VH (dv x0.f0 f3) f4)<|AC a<|AD (VH (ae x0.f3 0 68374079) b)<|AN))
  ·exact Vz (DP Tryz.f57 [.ret [(true,VJ .own ((ay x0.f1).1)),VY ((ay x0.f1).2)],.ret [VZ ((bq ((ay x0.f1).1)).1),VY ((bq ((ay x0.f1).1)).2)],rF] (AD (sH x0.f1)<|AD (fP ((ay x0.f1).1) f2)<|AD (VH (dv x0.f0 f3) f4)<|AN))
 ·apply VE;intro f5;apply VE;intro f6;apply VC<;>intro f7
  ·exact Vz (DP Tryz.f57 [.ret [(true,VJ .own ((ay x0.f1).1)),VY false],.ret [VZ ((bq ((ay x0.f1).1)).1),VY ((bq ((ay x0.f1).1)).2)],rT] (AD (fN x0.f1 f1)<|AD (fP ((ay x0.f1).1) f5)<|AD (VH (dv x0.f0 f6) f7)<|AN))
  ·exact Vz (DP Tryz.f57 [.ret [(true,VJ .own ((ay x0.f1).1)),VY ((ay x0.f1).2)],.ret [VZ ((bq ((ay x0.f1).1)).1),VY ((bq ((ay x0.f1).1)).2)],rF] (AD (sH x0.f1)<|AD (fP ((ay x0.f1).1) f5)<|AD (VH (dv x0.f0 f6) f7)<|AN))
inductive D7 where|ret (v2:Bool)|x2
def nc (q0:Kd)(a b:Y9)(c d:Int)(e:Bool)(f g:List GTask)(h i:Int)(v59:List Y9)(j k:Int):US:=stL 78 [(1,.box () [tS a,tS b,tI c,tI d,tB e,V8 5 (f.map (VQ q0))]),(40,.one (V8 5 (g.map (VQ q0)))),(41,V2 h),(42,V2 i),(59,.one (V8 1 (v59.map etS))),(60,V2 j),(61,V2 k)]
def sM (q0:Kd)(a:Bool):US:=stL 78 [(2,V3 a)]
def uB (q0:Kd)(a b:Y9)(c d:Int)(e:Bool)(f g:List GTask)(h i:Int):US:=stL 78 [(1,.box () [tS a,tS b,tI c,tI d,tB e,V8 5 (f.map (VQ q0))]),(40,.one (V8 5 (g.map (VQ q0)))),(41,V2 h),(42,V2 i)]
abbrev xY:US→Exit→US→Prop:=Round E 68 (an Tryz.f68 1)
def OZ {q0:Kd}(a b:Y9)(c d:Int)(e:Bool)(f g:List GTask)(h i:Int)(v59:List Y9)(j k:Int):D7→Prop| .ret l=>Loops E 68 (an Tryz.f68 1) (nc q0 a b c d e f g h i v59 j k) .ret (sM q0 l)| .x2=>Loops E 68 (an Tryz.f68 1) (nc q0 a b c d e f g h i v59 j k) (.exit 2) (uB q0 a b c d e f g h i)
noncomputable def ll (b c:Y9)(d e:Int)(f:List GTask):List Y9→Nat→Bool→Option D7|[],i,a=>some (.x2)|hd::rest,i,a=>if(GDag.mk b c d e a f).f5.length≤1050000 then cond (decide ((bZ (GDag.mk b c d e a f) hd)<(0:Int))) (some (.ret false)) (ll b c d e f rest (i+1) a)else none
theorem OX {q0:Kd}(b c:Y9)(d e:Int)(f g:List GTask)(j l:Int)(v59:List Y9)(rest:List Y9):∀(i:Nat)(a:Bool),(v59).drop i=rest→v59.length≤9223372036854775807→Ans (ll b c d e f rest i a) (OZ (q0:=q0) b c d e a f g j l v59 (v59.length:Int) (i:Int)):=by
 induction rest with
 |nil =>intro i a m n;have hb:=aK m;unfold ll;exact Vz (VB (show xY (nc q0 b c d e a f g j l v59 (v59.length:Int) (i:Int)) (.exit 2) (uB q0 b c d e a f g j l)from RP [.b false] (AC hb<|AN)) (by intro h;cases h))
 |cons hd rest t =>
  intro i a m n;have hb:=aF m;have u:=aG m n;have o:=au m;have p:=aE m;unfold ll;apply VE;intro q;apply VC<;>intro s
  ·exact Vz (VB (show xY (nc q0 b c d e a f g j l v59 (v59.length:Int) (i:Int)) .ret (sM q0 false)from RP [.b true,.row (etS hd),.ret [VX (bZ (GDag.mk b c d e a f) hd)],.b true] (AC hb<|AR etS p<|AV (ψ:=fun k=>E.C k 77 [.agg (VK .far q0 (GDag.mk b c d e a f)),V4 hd]=some [VX (bZ (GDag.mk b c d e a f) hd)]) (gL (GDag.mk b c d e a f) hd q)<|AC s<|AN)) (by intro h;cases h))
  ·exact(t (i+1) a o n).mono fun y v=>by have r:xY (nc q0 b c d e a f g j l v59 (v59.length:Int) (i:Int)) .normal (nc q0 b c d e a f g j l v59 (v59.length:Int) (inc (i:Int))):=RP [.b true,.row (etS hd),.ret [VX (bZ (GDag.mk b c d e a f) hd)],.b false] (AC hb<|AR etS p<|AV (ψ:=fun k=>E.C k 77 [.agg (VK .far q0 (GDag.mk b c d e a f)),V4 hd]=some [VX (bZ (GDag.mk b c d e a f) hd)]) (gL (GDag.mk b c d e a f) hd q)<|AC s<|AN);rw[u]at r;cases y<;>exact VA r v
inductive D6 where|ret (v2:Bool)|x0
def kg (q0:Kd)(a b:Y9)(c d:Int)(e:Bool)(f g:List GTask)(h i:Int):US:=stL 78 [(1,.box () [tS a,tS b,tI c,tI d,tB e,V8 5 (f.map (VQ q0))]),(40,.one (V8 5 (g.map (VQ q0)))),(41,V2 h),(42,V2 i)]
def lJ (q0:Kd)(a:Bool):US:=stL 78 [(2,V3 a)]
def uA (q0:Kd)(a b:Y9)(c d:Int)(e:Bool)(f:List GTask):US:=stL 78 [(1,.box () [tS a,tS b,tI c,tI d,tB e,V8 5 (f.map (VQ q0))])]
abbrev pZ:US→Exit→US→Prop:=Round E 68 (an Tryz.f68 0)
def OY {q0:Kd}(a b:Y9)(c d:Int)(e:Bool)(f g:List GTask)(h i:Int):D6→Prop| .ret j=>Loops E 68 (an Tryz.f68 0) (kg q0 a b c d e f g h i) .ret (lJ q0 j)| .x0=>Loops E 68 (an Tryz.f68 0) (kg q0 a b c d e f g h i) (.exit 0) (uA q0 a b c d e f)
noncomputable def lk (b c:Y9)(d e:Int)(f:List GTask):List GTask→Nat→Bool→Option D6
 |[],i,a=>some (.x0)
 |hd::rest,i,a=>if ab.sm hd then cond (u9 hd)
  (if(GDag.mk b c d e a f).f5.length≤1050000 then cond ((bZ (GDag.mk b c d e a f) hd.f0) != (i:Int))
   (some (.ret false))
   (if hd.f4.length≤9223372036854775807 then(ll b c d e f hd.f4 0 a).bind fun y=>match y with
    | .ret g=>(some (.ret g))
    | .x2=>(lk b c d e f rest (i+1) a)else none)else none)
  (some (.ret false))else none
theorem OW {q0:Kd}(b c:Y9)(d e:Int)(f g:List GTask)(rest:List GTask):∀(i:Nat)(a:Bool),(g).drop i=rest→g.length≤9223372036854775807→Ans (lk b c d e f rest i a) (OY (q0:=q0) b c d e a f g (g.length:Int) (i:Int)):=by
 induction rest with
 |nil =>intro i a l q;have hb:=aK l;unfold lk;exact Vz (VB (show pZ (kg q0 b c d e a f g (g.length:Int) (i:Int)) (.exit 0) (uA q0 b c d e a f)from RP [.b false] (AC hb<|AN)) (by intro h;cases h))
 |cons hd rest x =>
  intro i a l q;have hb:=aF l;have z:=aG l q;have s:=au l;have n:=aE l;unfold lk;apply VE;intro o;apply VC<;>intro p
  ·apply VE;intro t;apply VC<;>intro u
   ·exact Vz (VB (show pZ (kg q0 b c d e a f g (g.length:Int) (i:Int)) .ret (lJ q0 false)from RP [.b true,.row ((VQ q0) hd),rT,.ret [VX (bZ (GDag.mk b c d e a f) hd.f0)],.b true] (AC hb<|AR (VQ q0) n<|AD (VH (tA hd o) p)<|AV (ψ:=fun k=>E.C k 77 [.agg (VK .far q0 (GDag.mk b c d e a f)),V4 hd.f0]=some [VX (bZ (GDag.mk b c d e a f) hd.f0)]) (gL (GDag.mk b c d e a f) hd.f0 t)<|AC u<|AN)) (by intro h;cases h))
   ·apply VE;intro v;apply VD;intro y m;replace m:=OX (q0:=q0) b c d e f g (g.length:Int) (i:Int) hd.f4 hd.f4 0 a rfl v y m;cases y with
    |ret j =>have w:=m;exact Vz (VB (show pZ (kg q0 b c d e a f g (g.length:Int) (i:Int)) .ret (lJ q0 j)from RP [.b true,.row ((VQ q0) hd),rT,.ret [VX (bZ (GDag.mk b c d e a f) hd.f0)],.b false,V5 (hd.f4.length:Int),.lp .ret (sM q0 j)] (AC hb<|AR (VQ q0) n<|AD (VH (tA hd o) p)<|AV (ψ:=fun k=>E.C k 77 [.agg (VK .far q0 (GDag.mk b c d e a f)),V4 hd.f0]=some [VX (bZ (GDag.mk b c d e a f) hd.f0)]) (gL (GDag.mk b c d e a f) hd.f0 t)<|AC u<|ALn hd.f4 etS<|AL w<|AN)) (by intro h;cases h))
    |x2 =>have w:=m;exact(x (i+1) a s q).mono fun y m=>by have r:pZ (kg q0 b c d e a f g (g.length:Int) (i:Int)) .normal (kg q0 b c d e a f g (g.length:Int) (inc (i:Int))):=RP [.b true,.row ((VQ q0) hd),rT,.ret [VX (bZ (GDag.mk b c d e a f) hd.f0)],.b false,V5 (hd.f4.length:Int),.lp (.exit 2) (uB q0 b c d e a f g (g.length:Int) (i:Int))] (AC hb<|AR (VQ q0) n<|AD (VH (tA hd o) p)<|AV (ψ:=fun k=>E.C k 77 [.agg (VK .far q0 (GDag.mk b c d e a f)),V4 hd.f0]=some [VX (bZ (GDag.mk b c d e a f) hd.f0)]) (gL (GDag.mk b c d e a f) hd.f0 t)<|AC u<|ALn hd.f4 etS<|AL w<|AN);rw[z]at r;cases y<;>exact VA r m
  ·exact Vz (VB (show pZ (kg q0 b c d e a f g (g.length:Int) (i:Int)) .ret (lJ q0 false)from RP [.b true,.row ((VQ q0) hd),rF] (AC hb<|AR (VQ q0) n<|AD (VH (tA hd o) p)<|AN)) (by intro h;cases h))
noncomputable def vt (a:GDag):Option (Bool):=
  if a.f0.size≤2000000 then cond (fe a.f0)
   (cond (li a.f1)
    (cond (decide (a.f2<(0:Int)))
     (some (false))
     (cond (decide (a.f2>a.f3))
      (some (false))
      (cond (decide (a.f3>(68374079:Int)))
       (some (false))
       (cond (ag (a.f5.length:Int) 1 4)
        (if a.f5.length≤9223372036854775807 then(lk a.f0 a.f1 a.f2 a.f3 a.f5 a.f5 0 a.f4).bind fun y=>match y with
         | .ret b=>(some (b))
         | .x0=>(if ab.sm a then if dn a.f5 then some (((eh a).length:Int)==(a.f5.length:Int))else none else none)else none)
        (some (false))))))
    (some (false)))
   (some (false))else none
theorem QT {q0:Kd}(x0:GDag):Ans (vt x0) (fun r=>Does E 68 [.agg (VK .far q0 x0)] [VY r]):=by
 unfold vt;apply VE;intro a;apply VC<;>intro b
 ·apply VC<;>intro c
  ·apply VC<;>intro d
   ·exact Vz (DP Tryz.f68 [rT,rT,.b true] (AD (VH (dU x0.f0 a) b)<|AD (VH (lh x0.f1) c)<|AC d<|AN))
   ·apply VC<;>intro e
    ·exact Vz (DP Tryz.f68 [rT,rT,.b false,.b true] (AD (VH (dU x0.f0 a) b)<|AD (VH (lh x0.f1) c)<|AC d<|AC e<|AN))
    ·apply VC<;>intro g
     ·exact Vz (DP Tryz.f68 [rT,rT,.b false,.b false,.b true] (AD (VH (dU x0.f0 a) b)<|AD (VH (lh x0.f1) c)<|AC d<|AC e<|AC g<|AN))
     ·apply VC<;>intro i
      ·apply VE;intro j;apply VD;intro y h;replace h:=OW (q0:=q0) x0.f0 x0.f1 x0.f2 x0.f3 x0.f5 x0.f5 x0.f5 0 x0.f4 rfl j y h;cases y with
       |ret f =>have l:=h;exact Vz (DP Tryz.f68 [rT,rT,.b false,.b false,.b false,V5 (x0.f5.length:Int),rT,V5 (x0.f5.length:Int),.lp .ret (lJ q0 f)] (AD (VH (dU x0.f0 a) b)<|AD (VH (lh x0.f1) c)<|AC d<|AC e<|AC g<|ALn x0.f5 (VQ q0)<|AD (VH (ao (x0.f5.length:Int) 1 4) i)<|ALn x0.f5 (VQ q0)<|AL l<|AN))
       |x0 =>have l:=h;apply VE;intro m;apply VE;intro n;exact Vz (DP Tryz.f68 [rT,rT,.b false,.b false,.b false,V5 (x0.f5.length:Int),rT,V5 (x0.f5.length:Int),.lp (.exit 0) (uA q0 x0.f0 x0.f1 x0.f2 x0.f3 x0.f4 x0.f5),.ret [(false,[V7 1 ((eh x0).map etI)])],V5 ((eh x0).length:Int),V5 (x0.f5.length:Int)] (AD (VH (dU x0.f0 a) b)<|AD (VH (lh x0.f1) c)<|AC d<|AC e<|AC g<|ALn x0.f5 (VQ q0)<|AD (VH (ao (x0.f5.length:Int) 1 4) i)<|ALn x0.f5 (VQ q0)<|AL l<|AV (ψ:=fun k=>E.C k 49 [.agg (VK .far q0 x0)]=some [(false,[V7 1 ((eh x0).map etI)])]) (vS x0 m n)<|ALn (eh x0) etI<|ALn x0.f5 (VQ q0)<|AN))
      ·exact Vz (DP Tryz.f68 [rT,rT,.b false,.b false,.b false,V5 (x0.f5.length:Int),rF] (AD (VH (dU x0.f0 a) b)<|AD (VH (lh x0.f1) c)<|AC d<|AC e<|AC g<|ALn x0.f5 (VQ q0)<|AD (VH (ao (x0.f5.length:Int) 1 4) i)<|AN))
  ·exact Vz (DP Tryz.f68 [rT,rF] (AD (VH (dU x0.f0 a) b)<|AD (VH (lh x0.f1) c)<|AN))
 ·exact Vz (DP Tryz.f68 [rF] (AD (VH (dU x0.f0 a) b)<|AN))
noncomputable def eZ (ts:List GTask):List GTask→Nat→Bool|[],_=>true|t::r,i=>jI ts (i:Int) t&&eZ ts r (i+1)
noncomputable def aH (d:GDag):Bool :=fe d.f0&&(li d.f1&&(ag d.f3 0 68374079&&(ag d.f2 0 d.f3&&(ag (d.f5.length:Int) 1 4&&(eZ d.f5 d.f5 0&&((bX d.f5).length:Int)==(d.f5.length:Int))))))
theorem tU (ts:List GTask):∀(rest:List GTask)(i:Nat),ts.drop i=rest→eZ ts rest i=true→∀(k:Nat)(t:GTask),i≤k→ts[k]?=some t→jI ts (k:Int) t=true
 |[],i,h,_,k,t,c,a=>by have:ts.length≤i:=List.drop_eq_nil_iff.1 h;rw[Wh (by omega)]at a;cases a
 |x::rest,i,h,b,k,t,c,a=>by
  unfold eZ at b;rw[Ww]at b;by_cases e:k=i
  ·subst e;have:ts[k]?=some x:=by rw[←Yo,h];rfl
   rw[this]at a;cases a;exact b.1
  ·exact tU ts rest (i+1) (au h) b.2 k t (by omega) a
theorem xX {ts:List GTask}(a:ts.length≤4)(h:eZ ts ts 0=true):dn ts:=by refine⟨a,fun i t b=>?_⟩;have:=tU ts ts 0 rfl h i t (Yg _) b;unfold jI at this;simp only[Ww,XW]at this;exact this.2.1
theorem Qu (ts:List GTask)(hs:ab.sm ts):∀(rest:List GTask)(i:Nat)(z:Bool),ts.drop i=rest→lz ts rest i z=some (cond (eZ ts rest i) .x0 (.ret false))
 |[],i,z,_=>rfl
 |x::rest,i,z,h=>by
  have hi:=lH h;have a:=aE h;have e:pC ts (i:Int)=jI ts (i:Int) x:=by unfold pC;rw[a]
  unfold lz eZ;rw[Qu ts hs rest (i+1) z (au h),Wa hs,Wa (by omega),e];cases jI ts (i:Int) x<;>rfl
theorem Ul (d:GDag)(h:ab.sm d):vK d=some (aH d):=by
 have hs:ab.sm d.f5:=h.2.2;have a:d.f0.size≤2000000:=by have:d.f0.size≤1050000:=h.1;omega
 unfold vK aH li;simp only[a,KI,WN];cases(ay d.f1).2 with
 |false=>cases fe d.f0<;>rfl
 |true =>
  rw[Wn];cases fe d.f0 with
  |false=>rfl
  |true =>
   rw[Wn,WJ,WJ];cases(bq (ay d.f1).1).1.toList==d.f1.toList with
   |false=>rfl
   |true =>
    rw[Xd,Wu,WJ];cases ag d.f3 0 68374079 with
    |false=>rfl
    |true =>
     rw[Wn,WJ];cases ag d.f2 0 d.f3 with
     |false=>rfl
     |true =>
      rw[Wn,WJ];cases q:ag (d.f5.length:Int) 1 4 with
      |false=>rfl
      |true =>
       have b:d.f5.length≤4:=by unfold ag at q;simp at q;omega
       rw[Wn,WJ,Wa (by omega),Qu d.f5 hs d.f5 0 d.f4 rfl];cases w:eZ d.f5 d.f5 0 with
       |false=>rfl
       |true =>rw[Wn,V9,WJ];simp only;rw[Wa hs,Wa (xX b w)]
theorem Qt (a b:Y9)(c e:Int)(ts:List GTask)(d:ts.length≤1050000):∀(l:List Y9)(i:Nat)(z:Bool),ll a b c e ts l i z=some (cond (l.all fun n=>decide (0≤aw ts n)) .x2 (.ret false))
 |[],i,z=>rfl
 |n::l,i,z=>by
  unfold ll;rw[Wa (show(GDag.mk a b c e z ts).f5.length≤1050000 from d),Qt a b c e ts d l (i+1) z,Xh];show cond (decide (aw ts n<0)) _ _=_;by_cases w:aw ts n<0
  ·rw[Wi w,Wj (by omega:¬ 0≤aw ts n)];rfl
  ·rw[Wj w,Wi (by omega:0≤aw ts n)];rfl
theorem Qs (a b:Y9)(c e:Int)(ts:List GTask)(hs:ab.sm ts)(d:ts.length≤4):∀(l:List GTask)(i:Nat)(z:Bool),(∀y∈l,ab.sm y)→lk a b c e ts l i z=some (cond (eZ ts l i) .x0 (.ret false))
 |[],i,z,_=>rfl
 |t::l,i,z,f=>by have g:=f t (by simp);have hf:t.f4.length≤1050000:=g.2.2.1;unfold lk eZ;rw[Wa g,Wa (show(GDag.mk a b c e z ts).f5.length≤1050000 from hs.1),Wa (by omega),Qt a b c e ts hs.1,Qs a b c e ts hs d l (i+1) z (fun y h=>f y (by simp[h])),P7 ts d];have j:(bZ (GDag.mk a b c e z ts) t.f0 != (i:Int))= !(aw ts t.f0==(i:Int)):=rfl;rw[j];cases u9 t<;>cases aw ts t.f0==(i:Int)<;>cases(t.f4.all fun n=>decide (0≤aw ts n))<;>cases eZ ts l (i+1)<;>rfl
theorem Uk (d:GDag)(h:ab.sm d):vt d=some (aH d):=by
 have hs:ab.sm d.f5:=h.2.2;have e:d.f0.size≤2000000:=by have:d.f0.size≤1050000:=h.1;omega
 unfold vt aH;rw[Wa e];cases fe d.f0 with
 |false=>rfl
 |true =>
  rw[Wn,WJ];cases li d.f1 with
  |false=>rfl
  |true =>
   rw[Wn,WJ];by_cases w0:d.f2<0
   ·have:ag d.f2 0 d.f3=false:=by unfold ag;rw[Wj (by omega)];rfl
    rw[Wi w0,this,Yl,XL];rfl
   ·rw[Wj w0,Wu];by_cases a:d.f2>d.f3
    ·have:ag d.f2 0 d.f3=false:=by unfold ag;rw[Wj (by omega:¬d.f2≤d.f3),XL]
     rw[Wi a,this,Yl,XL];rfl
    ·rw[Wj a,Wu];have f:ag d.f2 0 d.f3=true:=by unfold ag;rw[Wi (by omega),Wi (by omega)];rfl
     by_cases b:d.f3>68374079
     ·have:ag d.f3 0 68374079=false:=by unfold ag;rw[Wj (by omega:¬d.f3≤68374079),XL]
      rw[Wi b,this,Yl];rfl
     ·have g:ag d.f3 0 68374079=true:=by unfold ag;rw[Wi (by omega),Wi (by omega)];rfl
      rw[Wj b,Wu,f,g,WJ,WJ];cases q:ag (d.f5.length:Int) 1 4 with
      |false=>rfl
      |true =>
       have c:d.f5.length≤4:=by unfold ag at q;simp at q;omega
       rw[Wn,WJ,Wa (by omega),Qs d.f0 d.f1 d.f2 d.f3 d.f5 hs c d.f5 0 d.f4 hs.2];cases w:eZ d.f5 d.f5 0 with
       |false=>rfl
       |true =>rw[Wn,V9,WJ];simp only;rw[Wa h,Wa (xX c w)];rfl
theorem iT {q0:Kd}(a:GDag)(h:ab.sm a):Does E 57 [.agg (VK .far q0 a)] [VY (aH a)]:=by exact RA a _ (Ul a h)
theorem lb {q0:Kd}(a:GDag)(h:ab.sm a):Does E 68 [.agg (VK .far q0 a)] [VY (aH a)]:=by exact QT a _ (Uk a h)
inductive Kc where|x0 (v5:List Int)
def yb (q0:Kd)(v2_0 v2_1:Y9)(v2_2 v2_3:Int)(v2_4:Bool)(a:List GTask)(v5:List Int)(b:List Y9)(c d:Int):US:=stL 29 [(2,.box () [tS v2_0,tS v2_1,tI v2_2,tI v2_3,tB v2_4,V8 5 (a.map (VQ q0))]),(5,.one (V7 1 (v5.map etI))),(13,.one (V8 1 (b.map etS))),(14,V2 c),(15,V2 d)]
def ya (q0:Kd)(a:List Int):US:=stL 29 [(5,.one (V7 1 (a.map etI)))]
abbrev Kb:US→Exit→US→Prop:=Round E 103 (an Tryz.f103 0)
def SG {q0:Kd}(v2_0 v2_1:Y9)(v2_2 v2_3:Int)(v2_4:Bool)(a:List GTask)(v5:List Int)(b:List Y9)(c d:Int):Kc→Prop| .x0 e=>Loops E 103 (an Tryz.f103 0) (yb q0 v2_0 v2_1 v2_2 v2_3 v2_4 a v5 b c d) (.exit 0) (ya q0 e)
noncomputable def mM (v2_0 v2_1:Y9)(v2_2 v2_3:Int)(a:List GTask):List Y9→Nat→Bool→(List Int)→Option Kc|[],i,v2_4,v5=>some (.x0 v5)|hd::rest,i,v2_4,v5=>if(GDag.mk v2_0 v2_1 v2_2 v2_3 v2_4 a).f5.length≤1050000 then if(v5.length+([bZ (GDag.mk v2_0 v2_1 v2_2 v2_3 v2_4 a) hd]).length)*8≤140737488355328∧v5.length+([bZ (GDag.mk v2_0 v2_1 v2_2 v2_3 v2_4 a) hd]).length≤4611686018427387904 then mM v2_0 v2_1 v2_2 v2_3 a rest (i+1) v2_4 (v5++([bZ (GDag.mk v2_0 v2_1 v2_2 v2_3 v2_4 a) hd]))else none else none
theorem SF {q0:Kd}(v2_0 v2_1:Y9)(v2_2 v2_3:Int)(a:List GTask)(b:List Y9)(rest:List Y9):∀(i:Nat)(v2_4:Bool)(v5:List Int),(b).drop i=rest→b.length≤9223372036854775807→Ans (mM v2_0 v2_1 v2_2 v2_3 a rest i v2_4 v5) (SG (q0:=q0) v2_0 v2_1 v2_2 v2_3 v2_4 a v5 b (b.length:Int) (i:Int)):=by
 induction rest with
 |nil =>intro i v2_4 v5 c d;have hb:=aK c;unfold mM;exact Vz (VB (show Kb (yb q0 v2_0 v2_1 v2_2 v2_3 v2_4 a v5 b (b.length:Int) (i:Int)) (.exit 0) (ya q0 v5)from RP [.b false] (AC hb<|AN)) (by intro h;cases h))
 |cons hd rest f =>intro i v2_4 v5 c d;have hb:=aF c;have g:=aG c d;have e:=au c;have j:=aE c;unfold mM;apply VE;intro l;apply VE;intro m;exact(f (i+1) v2_4 (v5++([bZ (GDag.mk v2_0 v2_1 v2_2 v2_3 v2_4 a) hd])) e d).mono fun y n=>by have r:Kb (yb q0 v2_0 v2_1 v2_2 v2_3 v2_4 a v5 b (b.length:Int) (i:Int)) .normal (yb q0 v2_0 v2_1 v2_2 v2_3 v2_4 a (v5++([bZ (GDag.mk v2_0 v2_1 v2_2 v2_3 v2_4 a) hd])) b (b.length:Int) (inc (i:Int))):=RP [.b true,.row (etS hd),.ret [VX (bZ (GDag.mk v2_0 v2_1 v2_2 v2_3 v2_4 a) hd)],.rows ((v5++([bZ (GDag.mk v2_0 v2_1 v2_2 v2_3 v2_4 a) hd])).map etI)] (AC hb<|AR etS j<|AV (ψ:=fun k=>E.C k 77 [.agg (VK .far q0 (GDag.mk v2_0 v2_1 v2_2 v2_3 v2_4 a)),V4 hd]=some [VX (bZ (GDag.mk v2_0 v2_1 v2_2 v2_3 v2_4 a) hd)]) (gL (GDag.mk v2_0 v2_1 v2_2 v2_3 v2_4 a) hd l)<|AAp etI (fun _=>rfl) m<|AN);rw[g]at r;cases y<;>exact VA r n
noncomputable def Bz (b:GDag)(d:Int):Option ((List Int)):=
  (ak b.f5 d).bind fun c=>if c.f4.length≤9223372036854775807 then(mM b.f0 b.f1 b.f2 b.f3 b.f5 c.f4 0 b.f4 ([])).bind fun y=>match y with
   | .x0 a=>(if a.length<4611686018427387904 then some (eO a)else none)else none
theorem Tq {q0:Kd}(x0:GDag)(e:Int):Ans (Bz x0 e) (fun r=>Does E 103 [.agg (VK .far q0 x0),V2 e] [(false,[V7 1 (r.map etI)])]):=by
 unfold Bz;apply VD;intro b f;apply VE;intro c;apply VD;intro y d;replace d:=SF (q0:=q0) x0.f0 x0.f1 x0.f2 x0.f3 x0.f5 b.f4 b.f4 0 x0.f4 ([]) rfl c y d;cases y with
 |x0 a =>have g:=d;apply VE;intro h;exact Vz (DP Tryz.f103 [.row ((VQ q0) b),V5 (b.f4.length:Int),.lp (.exit 0) (ya q0 a),.ret [(false,[V7 1 ((eO a).map etI)])]] (AR (VQ q0) f<|ALn b.f4 etS<|AL g<|AC (p:=(a.map etI).length=(a.map etI).length) rfl<|AV (ψ:=fun k=>E.C k 117 [.one (V7 1 (a.map etI))]=some [(false,[V7 1 ((eO a).map etI)])]) (tu a h)<|AN))
inductive CE where|x2 (v5:List Int)
def l7 (q0:Kd)(v1:Int)(v2_0 v2_1:Y9)(v2_2 v2_3:Int)(v2_4:Bool)(a:List GTask)(v5:List Int)(v6 v7:Int):US:=stL 48 [(1,V2 v1),(2,.box () [tS v2_0,tS v2_1,tI v2_2,tI v2_3,tB v2_4,V8 5 (a.map (VQ q0))]),(5,.one (V7 1 (v5.map etI))),(6,V2 v6),(7,V2 v7)]
def tr (q0:Kd)(v1:Int)(v2_0 v2_1:Y9)(v2_2 v2_3:Int)(v2_4:Bool)(a:List GTask)(v6:Int)(b:List Int):US:=stL 48 [(1,V2 v1),(2,.box () [tS v2_0,tS v2_1,tI v2_2,tI v2_3,tB v2_4,V8 5 (a.map (VQ q0))]),(5,.one (V7 1 (b.map etI))),(6,V2 v6)]
abbrev wE:US→Exit→US→Prop:=Round E 90 (an Tryz.f90 1)
def Np {q0:Kd}(v1:Int)(v2_0 v2_1:Y9)(v2_2 v2_3:Int)(v2_4:Bool)(a:List GTask)(v5:List Int)(v6 v7:Int):CE→Prop| .x2 b=>Loops E 90 (an Tryz.f90 1) (l7 q0 v1 v2_0 v2_1 v2_2 v2_3 v2_4 a v5 v6 v7) (.exit 2) (tr q0 v1 v2_0 v2_1 v2_2 v2_3 v2_4 a v6 b)
noncomputable def gV (a:List GTask)(v6:Int):List Y9→Nat→Bool→(List Int)→Option CE|[],i,v2_4,v5=>some (.x2 v5)|hd::rest,i,v2_4,v5=>(ak a v6).bind fun b=>cond (hd.toList==b.f0.toList) (if(v5.length+([v6]).length)*8≤140737488355328∧v5.length+([v6]).length≤4611686018427387904 then gV a v6 rest (i+1) v2_4 (v5++([v6]))else none) (gV a v6 rest (i+1) v2_4 v5)
theorem Nn {q0:Kd}(v1:Int)(v2_0 v2_1:Y9)(v2_2 v2_3:Int)(a:List GTask)(v6:Int)(b:GTask)(c:ak a v1=some b)(rest:List Y9):∀(i:Nat)(v2_4:Bool)(v5:List Int),(b.f4).drop i=rest→b.f4.length≤9223372036854775807→Ans (gV a v6 rest i v2_4 v5) (Np (q0:=q0) v1 v2_0 v2_1 v2_2 v2_3 v2_4 a v5 v6 (i:Int)):=by
 induction rest with
 |nil =>intro i v2_4 v5 d f;have hb:=aK d;unfold gV;exact Vz (VB (show wE (l7 q0 v1 v2_0 v2_1 v2_2 v2_3 v2_4 a v5 v6 (i:Int)) (.exit 2) (tr q0 v1 v2_0 v2_1 v2_2 v2_3 v2_4 a v6 v5)from RP [.row ((VQ q0) b),V5 (b.f4.length:Int),.b false] (AR (VQ q0) c<|ALn b.f4 etS<|AC hb<|AN)) (by intro h;cases h))
 |cons hd rest j =>
  intro i v2_4 v5 d f;have hb:=aF d;have k:=aG d f;have e:=au d;have l:=aE d;unfold gV;apply VD;intro m n;apply VC<;>intro o
  ·apply VE;intro p;exact(j (i+1) v2_4 (v5++([v6])) e f).mono fun y g=>by have r:wE (l7 q0 v1 v2_0 v2_1 v2_2 v2_3 v2_4 a v5 v6 (i:Int)) .normal (l7 q0 v1 v2_0 v2_1 v2_2 v2_3 v2_4 a (v5++([v6])) v6 (inc (i:Int))):=RP [.row ((VQ q0) b),V5 (b.f4.length:Int),.b true,.row ((VQ q0) b),.row (etS hd),.row ((VQ q0) m),.b true,.rows ((v5++([v6])).map etI)] (AR (VQ q0) c<|ALn b.f4 etS<|AC hb<|AR (VQ q0) c<|AR etS l<|AR (VQ q0) n<|AC o<|AAp etI (fun _=>rfl) p<|AN);rw[k]at r;cases y<;>exact VA r g
  ·exact(j (i+1) v2_4 v5 e f).mono fun y g=>by have r:wE (l7 q0 v1 v2_0 v2_1 v2_2 v2_3 v2_4 a v5 v6 (i:Int)) .normal (l7 q0 v1 v2_0 v2_1 v2_2 v2_3 v2_4 a v5 v6 (inc (i:Int))):=RP [.row ((VQ q0) b),V5 (b.f4.length:Int),.b true,.row ((VQ q0) b),.row (etS hd),.row ((VQ q0) m),.b false] (AR (VQ q0) c<|ALn b.f4 etS<|AC hb<|AR (VQ q0) c<|AR etS l<|AR (VQ q0) n<|AC o<|AN);rw[k]at r;cases y<;>exact VA r g
inductive CD where|x0 (v5:List Int)
def sb (q0:Kd)(v1:Int)(v2_0 v2_1:Y9)(v2_2 v2_3:Int)(v2_4:Bool)(a:List GTask)(v5:List Int)(v6:Int):US:=stL 48 [(1,V2 v1),(2,.box () [tS v2_0,tS v2_1,tI v2_2,tI v2_3,tB v2_4,V8 5 (a.map (VQ q0))]),(5,.one (V7 1 (v5.map etI))),(6,V2 v6)]
def tq (q0:Kd)(a:List Int):US:=stL 48 [(5,.one (V7 1 (a.map etI)))]
abbrev CC:US→Exit→US→Prop:=Round E 90 (an Tryz.f90 0)
def No {q0:Kd}(v1:Int)(v2_0 v2_1:Y9)(v2_2 v2_3:Int)(v2_4:Bool)(a:List GTask)(v5:List Int)(v6:Int):CD→Prop| .x0 b=>Loops E 90 (an Tryz.f90 0) (sb q0 v1 v2_0 v2_1 v2_2 v2_3 v2_4 a v5 v6) (.exit 0) (tq q0 b)
noncomputable def je (v1:Int)(a:List GTask):List GTask→Nat→Bool→(List Int)→Option CD
 |[],i,v2_4,v5=>some (.x0 v5)
 |hd::rest,i,v2_4,v5=>(ak a v1).bind fun c=>if c.f4.length≤9223372036854775807 then(gV a (i:Int) c.f4 0 v2_4 v5).bind fun y=>match y with
  | .x2 b=>(je v1 a rest (i+1) v2_4 b)else none
theorem Nm {q0:Kd}(v1:Int)(v2_0 v2_1:Y9)(v2_2 v2_3:Int)(a:List GTask)(rest:List GTask):∀(i:Nat)(v2_4:Bool)(v5:List Int),(a).drop i=rest→a.length≤9223372036854775807→Ans (je v1 a rest i v2_4 v5) (No (q0:=q0) v1 v2_0 v2_1 v2_2 v2_3 v2_4 a v5 (i:Int)):=by
 induction rest with
 |nil =>intro i v2_4 v5 c e;have hb:=aK c;unfold je;exact Vz (VB (show CC (sb q0 v1 v2_0 v2_1 v2_2 v2_3 v2_4 a v5 (i:Int)) (.exit 0) (tq q0 v5)from RP [V5 (a.length:Int),.b false] (ALn a (VQ q0)<|AC hb<|AN)) (by intro h;cases h))
 |cons hd rest k =>
  intro i v2_4 v5 c e;have hb:=aF c;have l:=aG c e;have f:=au c;have o:=aE c;unfold je;apply VD;intro j m;apply VE;intro g;apply VD;intro y d;replace d:=Nn (q0:=q0) v1 v2_0 v2_1 v2_2 v2_3 a (i:Int) j m j.f4 0 v2_4 v5 rfl g y d;cases y with
  |x2 b =>have n:=d;exact(k (i+1) v2_4 b f e).mono fun y d=>by have r:CC (sb q0 v1 v2_0 v2_1 v2_2 v2_3 v2_4 a v5 (i:Int)) .normal (sb q0 v1 v2_0 v2_1 v2_2 v2_3 v2_4 a b (inc (i:Int))):=RP [V5 (a.length:Int),.b true,.lp (.exit 2) (tr q0 v1 v2_0 v2_1 v2_2 v2_3 v2_4 a (i:Int) b)] (ALn a (VQ q0)<|AC hb<|AL n<|AN);rw[l]at r;cases y<;>exact VA r d
noncomputable def tZ (b:GDag)(c:Int):Option ((List Int)):=
  if b.f5.length≤9223372036854775807 then(je c b.f5 b.f5 0 b.f4 ([])).bind fun y=>match y with
   | .x0 a=>(some (a))else none
theorem PY {q0:Kd}(x0:GDag)(b:Int):Ans (tZ x0 b) (fun r=>Does E 90 [.agg (VK .far q0 x0),V2 b] [(false,[V7 1 (r.map etI)])]):=by
 unfold tZ;apply VE;intro c;apply VD;intro y d;replace d:=Nm (q0:=q0) b x0.f0 x0.f1 x0.f2 x0.f3 x0.f5 x0.f5 0 x0.f4 ([]) rfl c y d;cases y with
 |x0 a =>have e:=d;exact Vz (DP Tryz.f90 [.lp (.exit 0) (tq q0 a)] (AL e<|AN))
noncomputable def SX (ts:List GTask)(t:GTask):List Int:=eO (t.f4.map (aw ts))
noncomputable def ups (d:GDag)(i:Int):List Int:=match ak d.f5 i with|some t=>SX d.f5 t|none=>[]
theorem mE {d:GDag}(h:aH d=true):d.f5.length≤4∧1≤d.f5.length∧eZ d.f5 d.f5 0=true∧dn d.f5∧(bX d.f5).length=d.f5.length:=by
 unfold aH at h;simp only[Ww,XW]at h;obtain⟨_,_,_,_,b,c,e⟩:=h;have a:1≤d.f5.length∧d.f5.length≤4:=by unfold ag at b;simp at b;omega
 exact⟨a.2,a.1,c,xX a.2 c,by omega⟩
theorem ED {ts:List GTask}(h:eZ ts ts 0=true){k:Nat}{t:GTask}(a:ts[k]?=some t):asc t.f0 t.f4 none=true∧∀n∈t.f4,0≤aw ts n:=by have:=tU ts ts 0 rfl h k t (Yg _) a;unfold jI at this;simp only[Ww]at this;exact⟨this.2.2.2.2.1,fun n b=>X1 (Wt.1 this.2.2.2.2.2 n b)⟩
theorem IK (ts:List GTask){a b:Y9}(h:tx a=tx b):aw ts a=aw ts b:=by rw[sG h]
theorem yD {ts:List GTask}{n:Y9}(h:0≤aw ts n):∃(k:Nat) (t:GTask),aw ts n=(k:Int)∧ts[k]?=some t∧tx t.f0=tx n:=by
 unfold aw at h ⊢;rcases pJ n ts 0 with⟨b,_⟩|⟨k,t,c,d,a⟩
 ·rw[b]at h;omega
 ·unfold k9 at a;rw[hJ,W3]at a;exact⟨k,t,by rw[c];omega,d,a⟩
theorem zo {l:List Int}(e:l.Nodup):(eO l).Pairwise (· < ·)∧∀x,x∈eO l↔x∈l:=by
 have hs:(eO l).Pairwise (· ≤ ·):=by have:=Y3 (le:=fun x y:Int=>decide (x≤y)) (fun a b c=>by simp;omega) (fun a b=>by simp;omega) l;exact this.imp fun h=>by simpa using h
 have d:(eO l).Perm l:=List.mergeSort_perm l _;have hd:(eO l).Nodup:=d.nodup_iff.2 e;refine⟨?_,fun x=>d.mem_iff⟩;have:=hs.and hd;exact this.imp fun⟨a,b⟩=>by omega
theorem Hl {ts:List GTask}{t:GTask}(h:asc t.f0 t.f4 none=true)(f:∀n∈t.f4,0≤aw ts n):(t.f4.map (aw ts)).Nodup:=by
 have c:=(vk t.f0 t.f4 none h).1;unfold List.Nodup at c ⊢;rw[YW]at c ⊢;refine c.imp_of_mem fun {a b} i l d e=>?_
 obtain⟨k,u,p,m,o⟩:=yD (f a i);obtain⟨j,v,g1,g,g3⟩:=yD (f b l);have:k=j:=by omega
 subst this;rw[m]at g;cases g;exact d (o.symm.trans g3)
def j7 (a:List Y9):List GTask→Nat→List Int|[],_=>[]|t::r,k=>(a.filter fun n=>n.toList==t.f0.toList).map (fun _=>(k:Int))++j7 a r (k+1)
theorem DU {x:Y9}:∀{l:List Y9},(l.map tx).Nodup→(l.filter fun n=>n.toList==x.toList).length≤1
 |[],_=>by simp
 |y::l,h=>by
  rw[Wv,YG]at h;have a:=DU (x:=x) h.2;rw[Xy];split
  ·rename_i q;rw[hJ,W3]at q;have:l.filter (fun n=>n.toList==x.toList)=[]:=by rw[List.filter_eq_nil_iff];intro z hz e;rw[hJ,W3]at e;exact h.1 (Wx.2 ⟨z,hz,e.trans q.symm⟩)
   rw[this];simp
  ·exact a
theorem E5 {f:List Y9}(d:(f.map tx).Nodup):∀(l:List GTask)(k:Nat),(j7 f l k).Pairwise (· < ·)∧(∀x∈j7 f l k,(k:Int)≤x)∧∀x,x∈j7 f l k↔∃(j:Nat) (t:GTask),l[j]?=some t∧x=((k+j:Nat):Int)∧∃n∈f,tx n=tx t.f0
 |[],k=>⟨by simp[j7],fun x hx=>by simp[j7]at hx,fun x=>by simp[j7]⟩
 |t::l,k=>by
  obtain⟨m,i,o⟩:=E5 d l (k+1);unfold j7;have hf:=DU (x:=t.f0) d;have c:∀x,x∈(f.filter fun n=>n.toList==t.f0.toList).map (fun _=>(k:Int))↔x=(k:Int)∧∃n∈f,tx n=tx t.f0:=fun x=>by
   rw[Wx];constructor
   ·rintro⟨n,g,rfl⟩;rw[XN,hJ,W3]at g;exact⟨rfl,n,g⟩
   ·rintro⟨rfl,n,g⟩;exact⟨n,by rw[XN,hJ,W3];exact g,rfl⟩
  refine⟨?_,fun x hx=>?_,fun x=>?_⟩
  ·rw[YI];refine⟨?_,m,fun a p b hb=>?_⟩
   ·generalize (f.filter fun n=>n.toList==t.f0.toList)=L at hf
    match L,hf with
    |[],_=>simp
    |[y],_=>simp
    |y::z::w,hf=>simp at hf
   ·have:=((c a).1 p).1;have:=i b hb;omega
  ·rcases WF.1 hx with hx|hx
   ·have:=((c x).1 hx).1;omega
   ·have:=i x hx;omega
  ·rw[WF,c,o];constructor
   ·rintro(⟨e,d⟩|⟨j,u,h,q,d⟩)
    ·exact⟨0,t,rfl,by omega,d⟩
    ·exact⟨j+1,u,h,by omega,d⟩
   ·rintro⟨j,u,h,q,d⟩;cases j with
    |zero=>cases h;exact .inl ⟨by omega,d⟩
    |succ j=>exact .inr ⟨j,u,h,by omega,d⟩
theorem SY {ts:List GTask}(g:dn ts){t:GTask}(d:asc t.f0 t.f4 none=true)(e:∀n∈t.f4,0≤aw ts n):j7 t.f4 ts 0=SX ts t:=by
 obtain⟨h, -,a3⟩:=E5 (vk t.f0 t.f4 none d).1 ts 0;obtain⟨i,l⟩:=zo (Hl d e);refine Bm h i fun x=>?_
 rw[a3];show _↔x∈eO _;rw[l,Wx];constructor
 ·rintro⟨j,u,b,f,n,a,c⟩;refine⟨n,a,?_⟩;rw[IK ts c,g.2 j u b];omega
 ·rintro⟨n,a,rfl⟩;obtain⟨k,u,b,f,c⟩:=yD (e n a);exact⟨k,u,f,by rw[b];omega,n,a,c.symm⟩
theorem RU (a b:Y9)(c e:Int)(ts:List GTask)(d:ts.length≤1050000):∀(l:List Y9)(i:Nat)(z:Bool)(v:List Int),v.length+l.length≤2000000→mM a b c e ts l i z v=some (.x0 (v++l.map (aw ts)))
 |[],i,z,v,_=>by unfold mM;simp
 |n::l,i,z,v,f=>by simp only[WL]at f;unfold mM;rw[Wa (show(GDag.mk a b c e z ts).f5.length≤1050000 from d),Wa (by simp;omega),RU a b c e ts d l (i+1) z _ (by simp;omega)];simp[bZ]
theorem Uq (d:GDag)(i:Int)(h:ab.sm d)(hi:0≤i∧i<(d.f5.length:Int)):Bz d i=some (ups d i):=by have hs:ab.sm d.f5:=h.2.2;obtain⟨t,a,b⟩:=cA hi;have c:t.f4.length≤1050000:=(hs.2 t b).2.2.1;unfold Bz ups;rw[a,V9,Wa (by omega),RU _ _ _ _ _ hs.1 _ _ _ _ (by simp;omega),V9];simp only[WI];rw[Wa (by rw[WH];omega)];rfl
theorem LH (ts:List GTask)(k:Nat)(u:GTask)(a:ts[k]?=some u):∀(l:List Y9)(i:Nat)(z:Bool)(v:List Int),v.length+l.length≤8000000→gV ts (k:Int) l i z v=some (.x2 (v++(l.filter fun n=>n.toList==u.f0.toList).map fun _=>(k:Int)))
 |[],i,z,v,_=>by unfold gV;simp
 |n::l,i,z,v,b=>by
  simp only[WL]at b;have c:ak ts (k:Int)=some u:=by rw[cp];exact a
  unfold gV;rw[c,V9,Xy];cases n.toList==u.f0.toList with
  |true=>rw[Wn,Wa (by simp;omega),LH ts k u a l (i+1) z _ (by simp;omega)];simp
  |false=>rw[Wu,LH ts k u a l (i+1) z v (by omega)];simp
theorem RT (ts:List GTask)(i:Int)(t:GTask)(b:ak ts i=some t)(c:t.f4.length≤1050000)(a:ts.length≤4):∀(l:List GTask)(k:Nat)(z:Bool)(v:List Int),ts.drop k=l→v.length+l.length*1050000≤6000000→je i ts l k z v=some (.x0 (v++j7 t.f4 l k))
 |[],k,z,v,_,_=>by unfold je j7;rw[WG]
 |u::l,k,z,v,hd,hv=>by
  have d:ts[k]?=some u:=by rw[←Yo,hd];rfl
  simp only[WL]at hv;have hf:=List.length_filter_le (fun n:Y9=>n.toList==u.f0.toList) t.f4;unfold je j7;rw[b,V9,Wa (by omega),LH ts k u d _ _ _ _ (by omega),V9];simp only;rw[RT ts i t b c a l (k+1) z _ (au hd) (by simp;omega),XM]
theorem Ur (d:GDag)(i:Int)(h:ab.sm d)(hd:aH d=true)(hi:0≤i∧i<(d.f5.length:Int)):tZ d i=some (ups d i):=by obtain⟨c, -,e,a, -⟩:=mE hd;have hs:ab.sm d.f5:=h.2.2;obtain⟨t,b,f⟩:=cA hi;have hf:t.f4.length≤1050000:=(hs.2 t f).2.2.1;obtain⟨l,g⟩:=ke b;obtain⟨j,k⟩:=ED e g;unfold tZ ups;rw[Wa (by omega),b,RT d.f5 i t b hf c d.f5 0 d.f4 [] rfl (by simp;omega),V9];simp only[WI];rw[SY a j k]
theorem Uf {d:GDag}{i:Int}(hd:aH d=true)(hi:0≤i∧i<(d.f5.length:Int)):(∀x∈ups d i,0≤x∧x<(d.f5.length:Int))∧(ups d i).length≤4:=by
 obtain⟨p, -,g,j, -⟩:=mE hd;obtain⟨t,b,c⟩:=cA hi;obtain⟨q,k⟩:=ke b;obtain⟨l,f⟩:=ED g k;have e:ups d i=SX d.f5 t:=by unfold ups;rw[b]
 obtain⟨m,o⟩:=zo (Hl l f);have a:∀x∈ups d i,0≤x∧x<(d.f5.length:Int):=fun x a=>by rw[e]at a;obtain⟨n,c,rfl⟩:=Wx.1 ((o x).1 a);exact⟨f n c,(P6 d.f5 n).2⟩
 refine⟨a,?_⟩;have:=yt 0 ((d.f5.length:Int)-1) (ups d i) 0 (by rw[e];exact m) (fun x h=>by have:=a x h;omega) (by omega);omega
theorem NE {q0:Kd}(a:GDag)(b:Int)(h:ab.sm a)(hd:aH a=true)(hi:0≤b∧b<(a.f5.length:Int)):Does E 103 [.agg (VK .far q0 a),V2 b] [(false,[V7 1 ((ups a b).map etI)])]:=by exact Tq a b _ (Uq a b h hi)
theorem On {q0:Kd}(a:GDag)(b:Int)(h:ab.sm a)(hd:aH a=true)(hi:0≤b∧b<(a.f5.length:Int)):Does E 90 [.agg (VK .far q0 a),V2 b] [(false,[V7 1 ((ups a b).map etI)])]:=by exact PY a b _ (Ur a b h hd hi)
end
end Go.Proofs.YtjikhkndmohepaaGreatDoor.Am
