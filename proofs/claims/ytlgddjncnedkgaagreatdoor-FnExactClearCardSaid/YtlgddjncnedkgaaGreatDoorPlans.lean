/- Plans. -/
import Derived.Test.YtlgddjncnedkgaaGreatDoorRules
namespace Go.Proofs.YtlgddjncnedkgaaGreatDoor.Am
open Go
set_option linter.unusedVariables false
set_option linter.unusedSimpArgs false
section
open Go.Proofs Classical
set_option maxRecDepth 100000
inductive Dr where|ret (v2:Bool)|x0
def dP (v0:Zz)(v3:Int):US:=stL 46 [(0,Wt v0),(3,Wr v3)]
def jK (a:Bool):US:=stL 46 [(2,Ws a)]
def tA  : US:=stL 46 []
abbrev jy:US→Exit→US→Prop:=Round E 93 (aq Tryz.f93 0)
def NX (v0:Zz)(v3:Int):Dr→Prop| .ret a=>Loops E 93 (aq Tryz.f93 0) (dP v0 v3) .ret (jK a)| .x0=>Loops E 93 (aq Tryz.f93 0) (dP v0 v3) (.exit 0) (tA)
noncomputable def iw  : List Int→Nat→Option Dr|[],i=>some (.x0)|hd::rest,i=>cond (decide (hd<(97:Int))) (cond (decide (hd<(48:Int))) (some (.ret false)) (cond (decide (hd>(57:Int))) (some (.ret false)) (iw rest (i+1)))) (cond (decide (hd>(122:Int))) (cond (decide (hd<(48:Int))) (some (.ret false)) (cond (decide (hd>(57:Int))) (some (.ret false)) (iw rest (i+1)))) (iw rest (i+1)))
theorem NW (v0:Zz)(rest:List Int):∀(i:Nat) ,(cw v0).drop i=rest→v0.size≤9223372036854775807→Ans (iw rest i) (NX v0 (i:Int)):=by
 induction rest with
 |nil =>intro i c g;have hb:=uP c;unfold iw;exact VZ (V3 (show jy (dP v0 (i:Int)) (.exit 0) (tA)from RP [.b false] (AC hb<|AN)))
 |cons hd rest j =>
  intro i c g;have hb:=sS c;have k:=sT c g;have d:=az c;have a:=xQ c;obtain rfl:=xP c;unfold iw;apply V4<;>intro e
  ·apply V4<;>intro b
   ·exact VZ (V3 (show jy (dP v0 (i:Int)) .ret (jK false)from RP [.b true,.b true,.b true] (AC hb<|AC a<|AC e<|AC a<|AC b<|AN)))
   ·apply V4<;>intro f
    ·exact VZ (V3 (show jy (dP v0 (i:Int)) .ret (jK false)from RP [.b true,.b true,.b false,.b true] (AC hb<|AC a<|AC e<|AC a<|AC b<|AC a<|AC f<|AN)))
    ·exact(j (i+1) d g).mono fun y h=>by have r:jy (dP v0 (i:Int)) .normal (dP v0 (inc (i:Int))):=RP [.b true,.b true,.b false,.b false] (AC hb<|AC a<|AC e<|AC a<|AC b<|AC a<|AC f<|AN);rw[k]at r;cases y<;>exact V2 r h
  ·apply V4<;>intro b
   ·apply V4<;>intro f
    ·exact VZ (V3 (show jy (dP v0 (i:Int)) .ret (jK false)from RP [.b true,.b false,.b true,.b true] (AC hb<|AC a<|AC e<|AC a<|AC b<|AC a<|AC f<|AN)))
    ·apply V4<;>intro l
     ·exact VZ (V3 (show jy (dP v0 (i:Int)) .ret (jK false)from RP [.b true,.b false,.b true,.b false,.b true] (AC hb<|AC a<|AC e<|AC a<|AC b<|AC a<|AC f<|AC a<|AC l<|AN)))
     ·exact(j (i+1) d g).mono fun y h=>by have r:jy (dP v0 (i:Int)) .normal (dP v0 (inc (i:Int))):=RP [.b true,.b false,.b true,.b false,.b false] (AC hb<|AC a<|AC e<|AC a<|AC b<|AC a<|AC f<|AC a<|AC l<|AN);rw[k]at r;cases y<;>exact V2 r h
   ·exact(j (i+1) d g).mono fun y h=>by have r:jy (dP v0 (i:Int)) .normal (dP v0 (inc (i:Int))):=RP [.b true,.b false,.b false] (AC hb<|AC a<|AC e<|AC a<|AC b<|AN);rw[k]at r;cases y<;>exact V2 r h
noncomputable def un (a:Zz):Option (Bool):=
  cond (ak (a.size:Int) 1 8)
   (if 0≤(0:Int)∧(0:Int)<(a.size:Int)then cond (decide ((jl a (0:Int))<(97:Int)))
    (some (false))
    (cond (decide ((jl a (0:Int))>(122:Int)))
     (some (false))
     (if a.size≤9223372036854775807 then(iw (cw a) 0).bind fun y=>match y with
      | .ret b=>(some (b))
      | .x0=>(some (true))else none))else none)
   (some (false))
abbrev ZU (x0:Zz):=am (x0.size:Int) 1 8
theorem Qv (x0:Zz):Ans (un x0) (fun r=>Does E 93 [Wt x0] [Wp r]):=by
 unfold un;apply V4<;>intro b
 ·apply V6;intro a;apply V4<;>intro d
  ·exact VZ (DP Tryz.f93 [rT,.b true] (AD (V9 (ZU x0) b)<|AC a<|AC d<|AN))
  ·apply V4<;>intro f
   ·exact VZ (DP Tryz.f93 [rT,.b false,.b true] (AD (V9 (ZU x0) b)<|AC a<|AC d<|AC a<|AC f<|AN))
   ·apply V6;intro g;apply V5;intro y e;replace e:=NW x0 (cw x0) 0 rfl g y e;cases y with
    |ret c =>have h:=e;exact VZ (DP Tryz.f93 [rT,.b false,.b false,.lp .ret (jK c)] (AD (V9 (ZU x0) b)<|AC a<|AC d<|AC a<|AC f<|AL h<|AN))
    |x0 =>have h:=e;exact VZ (DP Tryz.f93 [rT,.b false,.b false,.lp (.exit 0) (tA)] (AD (V9 (ZU x0) b)<|AC a<|AC d<|AC a<|AC f<|AL h<|AN))
 ·exact VZ (DP Tryz.f93 [rF] (AD (V9 (ZU x0) b)<|AN))
inductive C7 where|ret (v2:Bool)|x0
def cY (v0:Zz)(v3:Int):US:=stL 42 [(0,Wt v0),(3,Wr v3)]
def fR (a:Bool):US:=stL 42 [(2,Ws a)]
def ta (v0:Zz):US:=stL 42 [(0,Wt v0)]
abbrev ge:US→Exit→US→Prop:=Round E 115 (aq Tryz.f115 0)
def Ng (v0:Zz)(v3:Int):C7→Prop| .ret a=>Loops E 115 (aq Tryz.f115 0) (cY v0 v3) .ret (fR a)| .x0=>Loops E 115 (aq Tryz.f115 0) (cY v0 v3) (.exit 0) (ta v0)
noncomputable def gf  : List Int→Nat→Option C7|[],i=>some (.x0)|hd::rest,i=>cond (decide (hd≥(97:Int))) (cond (decide (hd≤(122:Int))) (gf rest (i+1)) (cond ((i:Int)==(0:Int)) (some (.ret false)) (cond (decide (hd<(48:Int))) (some (.ret false)) (cond (decide (hd>(57:Int))) (some (.ret false)) (gf rest (i+1)))))) (cond ((i:Int)==(0:Int)) (some (.ret false)) (cond (decide (hd<(48:Int))) (some (.ret false)) (cond (decide (hd>(57:Int))) (some (.ret false)) (gf rest (i+1)))))
theorem Nf (v0:Zz)(rest:List Int):∀(i:Nat) ,(cw v0).drop i=rest→v0.size≤9223372036854775807→Ans (gf rest i) (Ng v0 (i:Int)):=by
 induction rest with
 |nil =>intro i e h;have hb:=uP e;unfold gf;exact VZ (V3 (show ge (cY v0 (i:Int)) (.exit 0) (ta v0)from RP [.b false] (AC hb<|AN)))
 |cons hd rest k =>
  intro i e h;have hb:=sS e;have l:=sT e h;have f:=az e;have a:=xQ e;obtain rfl:=xP e;unfold gf;apply V4<;>intro c
  ·apply V4<;>intro b
   ·exact(k (i+1) f h).mono fun y j=>by have r:ge (cY v0 (i:Int)) .normal (cY v0 (inc (i:Int))):=RP [.b true,.b true,.b true] (AC hb<|AC a<|AC c<|AC a<|AC b<|AN);rw[l]at r;cases y<;>exact V2 r j
   ·apply V4<;>intro d
    ·exact VZ (V3 (show ge (cY v0 (i:Int)) .ret (fR false)from RP [.b true,.b true,.b false,.b true] (AC hb<|AC a<|AC c<|AC a<|AC b<|AC d<|AN)))
    ·apply V4<;>intro g
     ·exact VZ (V3 (show ge (cY v0 (i:Int)) .ret (fR false)from RP [.b true,.b true,.b false,.b false,.b true] (AC hb<|AC a<|AC c<|AC a<|AC b<|AC d<|AC a<|AC g<|AN)))
     ·apply V4<;>intro m
      ·exact VZ (V3 (show ge (cY v0 (i:Int)) .ret (fR false)from RP [.b true,.b true,.b false,.b false,.b false,.b true] (AC hb<|AC a<|AC c<|AC a<|AC b<|AC d<|AC a<|AC g<|AC a<|AC m<|AN)))
      ·exact(k (i+1) f h).mono fun y j=>by have r:ge (cY v0 (i:Int)) .normal (cY v0 (inc (i:Int))):=RP [.b true,.b true,.b false,.b false,.b false,.b false] (AC hb<|AC a<|AC c<|AC a<|AC b<|AC d<|AC a<|AC g<|AC a<|AC m<|AN);rw[l]at r;cases y<;>exact V2 r j
  ·apply V4<;>intro b
   ·exact VZ (V3 (show ge (cY v0 (i:Int)) .ret (fR false)from RP [.b true,.b false,.b true] (AC hb<|AC a<|AC c<|AC b<|AN)))
   ·apply V4<;>intro d
    ·exact VZ (V3 (show ge (cY v0 (i:Int)) .ret (fR false)from RP [.b true,.b false,.b false,.b true] (AC hb<|AC a<|AC c<|AC b<|AC a<|AC d<|AN)))
    ·apply V4<;>intro g
     ·exact VZ (V3 (show ge (cY v0 (i:Int)) .ret (fR false)from RP [.b true,.b false,.b false,.b false,.b true] (AC hb<|AC a<|AC c<|AC b<|AC a<|AC d<|AC a<|AC g<|AN)))
     ·exact(k (i+1) f h).mono fun y j=>by have r:ge (cY v0 (i:Int)) .normal (cY v0 (inc (i:Int))):=RP [.b true,.b false,.b false,.b false,.b false] (AC hb<|AC a<|AC c<|AC b<|AC a<|AC d<|AC a<|AC g<|AN);rw[l]at r;cases y<;>exact V2 r j
noncomputable def ub (b:Zz):Option (Bool):=
  if b.size≤9223372036854775807 then(gf (cw b) 0).bind fun y=>match y with
   | .ret a=>(some (a))
   | .x0=>(some (ak (b.size:Int) 1 8))else none
theorem PL (x0:Zz):Ans (ub x0) (fun r=>Does E 115 [Wt x0] [Wp r]):=by
 unfold ub;apply V6;intro c;apply V5;intro y b;replace b:=Nf x0 (cw x0) 0 rfl c y b;cases y with
 |ret a =>have d:=b;exact VZ (DP Tryz.f115 [.lp .ret (fR a)] (AL d<|AN))
 |x0 =>have d:=b;exact VZ (DP Tryz.f115 [.lp (.exit 0) (ta x0),.ret [Wp (ak (x0.size:Int) 1 8)]] (AL d<|AD (aG (x0.size:Int) 1 (8:Int))<|AN))
def xg (h:Int):Bool:=decide (97≤h∧h≤122)
def lfI (h:Int):Bool:=decide (97≤h∧h≤122∨48≤h∧h≤57)
def TD:List Int→Bool|[]=>true|h::l=>xg h&&l.all lfI
def fp (s:Zz):Bool:=ak (s.size:Int) 1 8&&TD (cw s)
theorem Uw {α:Type}(h:Int)(A B:α):cond (decide (h<97)) (cond (decide (h<48)) A (cond (decide (h>57)) A B)) (cond (decide (h>122)) (cond (decide (h<48)) A (cond (decide (h>57)) A B)) B)=cond (lfI h) B A:=by
 unfold lfI;simp only[Y2];repeat' split
 all_goals first|rfl|(exfalso;omega)
theorem T3 {α:Type}(h:Int)(A B:α):cond (decide (h≥97)) (cond (decide (h≤122)) B (cond (decide (h<48)) A (cond (decide (h>57)) A B))) (cond (decide (h<48)) A (cond (decide (h>57)) A B))=cond (lfI h) B A:=by
 unfold lfI;simp only[Y2];repeat' split
 all_goals first|rfl|(exfalso;omega)
theorem T2 {α:Type}(h:Int)(A B:α):cond (decide (h≥97)) (cond (decide (h≤122)) B A) A=cond (xg h) B A:=by
 unfold xg;simp only[Y2];repeat' split
 all_goals first|rfl|(exfalso;omega)
theorem Uv {h:Int}(q:xg h=true):lfI h=true:=by unfold xg at q;unfold lfI;simp only[Xv]at q ⊢;exact .inl q
theorem OK:∀(l:List Int)(i:Nat),iw l i=some (cond (l.all lfI) .x0 (.ret false))
 |[],i=>rfl
 |h::l,i=>by unfold iw;rw[OK l (i+1),X9,Uw];cases lfI h<;>rfl
theorem OJ:∀(l:List Int)(i:Nat),gf l (i+1)=some (cond (l.all lfI) .x0 (.ret false))
 |[],i=>rfl
 |h::l,i=>by
  unfold gf;have e:(((i+1:Nat):Int)==0)=false:=by rw[Xy];omega
  rw[OJ l (i+1),X9,e];simp only[WO];rw[T3];cases lfI h<;>rfl
theorem UA (s:Zz)(hs:s.size≤2000000):un s=some (fp s):=by
 unfold un fp;cases q:ak (s.size:Int) 1 8 with
 |false=>rfl
 |true =>
  have c:1≤(s.size:Int)∧(s.size:Int)≤8:=by unfold ak at q;simpa using q
  rw[WK,Wz (by omega),Wz (by omega),Xa,OK];have a:=xx s 0 (by omega);cases e:cw s with
  |nil=>rw[e]at a;cases a
  |cons h l =>
   rw[e]at a;have hb:h=jl s (0:Int):=Yn a;rw[←hb];show _=some (xg h&&l.all lfI);rw[X9];have k:∀(X:Option Bool),cond (decide (h<97)) (some false) (cond (decide (h>122)) (some false) X)=cond (xg h) X (some false):=fun X=>by
    unfold xg;simp only[Y2];repeat' split
    all_goals first|rfl|(exfalso;omega)
   rw[k];cases b:xg h with
   |false=>rfl
   |true =>rw[Uv b];cases l.all lfI<;>rfl
theorem Uz (s:Zz)(hs:s.size≤2000000):ub s=some (fp s):=by
 unfold ub fp;rw[Wz (by omega)];cases e:cw s with
 |nil =>show some (ak (s.size:Int) 1 8)=some (ak (s.size:Int) 1 8&&true);rw[Bool.and_true]
 |cons h l =>
  unfold gf TD;have a:(((0:Nat):Int)==0)=true:=rfl;rw[OJ l 0,a];simp only[WK];rw[T2];cases xg h with
  |false=>rw[YP,Yt];rfl
  |true =>
   rw[WK,Xa,Wy];cases l.all lfI with
   |false=>rw[Yt];rfl
   |true=>rw[Bool.and_true];rfl
theorem dy (a:Zz)(h:a.size≤2000000):Does E 93 [Wt a] [Wp (fp a)]:=by exact Qv a _ (UA a h)
theorem dX (a:Zz)(h:a.size≤2000000):Does E 115 [Wt a] [Wp (fp a)]:=by exact PL a _ (Uz a h)
noncomputable def nm (a:Zz):Option (Int):=cond (a.toList==(⟨#[111,110,101]⟩:Zz).toList) (some (1)) (cond (a.toList==(⟨#[116,119,111]⟩:Zz).toList) (some (2)) (cond (a.toList==(⟨#[119,105,100,101]⟩:Zz).toList) (some (4)) (some (0))))
theorem L3 (c:Zz):Ans (nm c) (fun r=>Does E 113 [Wt c] [Wo r]):=by
 unfold nm;apply V4<;>intro a
 ·exact VZ (DP Tryz.f113 [.b true] (AC a<|AN))
 ·apply V4<;>intro b
  ·exact VZ (DP Tryz.f113 [.b false,.b true] (AC a<|AC b<|AN))
  ·apply V4<;>intro d
   ·exact VZ (DP Tryz.f113 [.b false,.b false,.b true] (AC a<|AC b<|AC d<|AN))
   ·exact VZ (DP Tryz.f113 [.b false,.b false,.b false] (AC a<|AC b<|AC d<|AN))
noncomputable def Bo (a:Zz):Option (Int):=cond (a.toList==(⟨#[111,110,101]⟩:Zz).toList) (some (1)) (cond (a.toList==(⟨#[116,119,111]⟩:Zz).toList) (some (2)) (cond (a.toList==(⟨#[119,105,100,101]⟩:Zz).toList) (some (4)) (some (0))))
theorem KX (c:Zz):Ans (Bo c) (fun r=>Does E 134 [Wt c] [Wo r]):=by
 unfold Bo;apply V4<;>intro a
 ·exact VZ (DP Tryz.f134 [.b true] (AC a<|AN))
 ·apply V4<;>intro b
  ·exact VZ (DP Tryz.f134 [.b false,.b true] (AC a<|AC b<|AN))
  ·apply V4<;>intro d
   ·exact VZ (DP Tryz.f134 [.b false,.b false,.b true] (AC a<|AC b<|AC d<|AN))
   ·exact VZ (DP Tryz.f134 [.b false,.b false,.b false] (AC a<|AC b<|AC d<|AN))
noncomputable def cz (s:Zz):Int:=(nm s).getD 0
theorem LI (s:Zz):nm s=some (cz s):=by refine Tot.getD ?_ _;unfold nm;repeat' (first|exact Tot.some _|apply Tot.cond)
theorem qn (a:Zz):Does E 113 [Wt a] [Wo (cz a)]:=by exact L3 a _ (LI a)
theorem mS (a:Zz):Does E 134 [Wt a] [Wo (cz a)]:=by exact KX a _ (LI a)
inductive FQ where|ret (v4:Int)|x0
def of (q0:Kd)(v0:List GTask)(v1:Zz)(v5:Int):US:=stL 20 [(0,.one (Wx 5 (v0.map (Wj q0)))),(1,Wt v1),(5,Wr v5)]
def tH (q0:Kd)(a:Int):US:=stL 20 [(4,Wr a)]
def vn (q0:Kd)  : US:=stL 20 []
abbrev zG:US→Exit→US→Prop:=Round E 43 (aq Tryz.f43 0)
def QD {q0:Kd}(v0:List GTask)(v1:Zz)(v5:Int):FQ→Prop| .ret a=>Loops E 43 (aq Tryz.f43 0) (of q0 v0 v1 v5) .ret (tH q0 a)| .x0=>Loops E 43 (aq Tryz.f43 0) (of q0 v0 v1 v5) (.exit 0) (vn q0)
noncomputable def l8 (v1:Zz):List GTask→Nat→Option FQ|[],i=>some (.x0)|hd::rest,i=>cond (hd.f0.toList==v1.toList) (some (.ret (i:Int))) (l8 v1 rest (i+1))
theorem QC {q0:Kd}(v0:List GTask)(v1:Zz)(rest:List GTask):∀(i:Nat) ,(v0).drop i=rest→v0.length≤9223372036854775807→Ans (l8 v1 rest i) (QD (q0:=q0) v0 v1 (i:Int)):=by
 induction rest with
 |nil =>intro i a b;have hb:=aP a;unfold l8;exact VZ (V3 (show zG (of q0 v0 v1 (i:Int)) (.exit 0) (vn q0)from RP [Wu (v0.length:Int),.b false] (ALn v0 (Wj q0)<|AC hb<|AN)))
 |cons hd rest f =>
  intro i a b;have hb:=aI a;have g:=aJ a b;have c:=az a;have d:=aK a;unfold l8;apply V4<;>intro e
  ·exact VZ (V3 (show zG (of q0 v0 v1 (i:Int)) .ret (tH q0 (i:Int))from RP [Wu (v0.length:Int),.b true,.row ((Wj q0) hd),.b true] (ALn v0 (Wj q0)<|AC hb<|AR (Wj q0) d<|AC e<|AN)))
  ·exact(f (i+1) c b).mono fun y h=>by have r:zG (of q0 v0 v1 (i:Int)) .normal (of q0 v0 v1 (inc (i:Int))):=RP [Wu (v0.length:Int),.b true,.row ((Wj q0) hd),.b false] (ALn v0 (Wj q0)<|AC hb<|AR (Wj q0) d<|AC e<|AN);rw[g]at r;cases y<;>exact V2 r h
noncomputable def Cd (b:List GTask)(c:Zz):Option (Int):=
  if b.length≤9223372036854775807 then(l8 c b 0).bind fun y=>match y with
   | .ret a=>(some (a))
   | .x0=>(some ((-1:Int)))else none
theorem So {q0:Kd}(x0:List GTask)(c:Zz):Ans (Cd x0 c) (fun r=>Does E 43 [.one (Wx 5 (x0.map (Wj q0))),Wt c] [Wo r]):=by
 unfold Cd;apply V6;intro d;apply V5;intro y b;replace b:=QC (q0:=q0) x0 c x0 0 rfl d y b;cases y with
 |ret a =>have e:=b;exact VZ (DP Tryz.f43 [.lp .ret (tH q0 a)] (AL e<|AN))
 |x0 =>have e:=b;exact VZ (DP Tryz.f43 [.lp (.exit 0) (vn q0)] (AL e<|AN))
noncomputable def Bs (a:GTask)(b:Zz):Option (Bool):=some (a.f0.toList==b.toList)
theorem KY (a:GTask)(b:Zz):Ans (Bs a b) (fun r=>Does E 84 [.agg (Wj .far a),.im .far () [tS b] 0] [Wp r]):=by unfold Bs;exact VZ (DP Tryz.f84 [] AN)
def lB (x:GTask)(n:Zz):Bool:=x.f0.toList==n.toList
def qp (n:Zz):List GTask→Nat→Int|[],_ => -1|t::r,i=>cond (lB t n) (i:Int) (qp n r (i+1))
def ay (ts:List GTask)(n:Zz):Int:=qp n ts 0
theorem qq (n:Zz):∀(l:List GTask)(i:Nat),(qp n l i = -1∧∀t∈l,lB t n=false)∨∃(k:Nat) (t:GTask),qp n l i=((i+k:Nat):Int)∧l[k]?=some t∧lB t n=true
 |[],i=>.inl ⟨rfl,fun t a=>by cases a⟩
 |t::l,i=>by
  unfold qp;cases q:lB t n with
  |true=>exact .inr ⟨0,t,rfl,rfl,q⟩
  |false =>
   rw[WO];rcases qq n l (i+1)with⟨h,b⟩|⟨k,u,c,d,e⟩
   ·exact .inl ⟨h,fun u hu=>by rcases WZ.1 hu with rfl|hu;exact q;exact b u hu⟩
   ·exact .inr ⟨k+1,u,by rw[c];omega,d,e⟩
theorem QL (ts:List GTask)(n:Zz): -1≤ay ts n∧ay ts n<(ts.length:Int):=by
 unfold ay;rcases qq n ts 0 with⟨h,_⟩|⟨k,t,b,a,_⟩
 ·rw[h];omega
 ·have:k<ts.length:=by
   rcases WI k ts.length with g|g
   ·exact g
   ·rw[WF g]at a;cases a
  rw[b];omega
theorem Ok {ts:List GTask}{n:Zz}(h:0≤ay ts n):∃t∈ts,tx t.f0=tx n:=by
 unfold ay at h;rcases qq n ts 0 with⟨b,_⟩|⟨k,t,c,h2,a⟩
 ·rw[b]at h;omega
 ·unfold lB at a;rw[me,Xv]at a;exact⟨t,WC h2,a⟩
theorem Ul (n:Zz):∀(l:List GTask)(i:Nat),(l8 n l i).bind (fun y=>match y with
   | .ret a=>(some (a))
   | .x0=>(some ((-1:Int))))=some (qp n l i)
 |[],i=>rfl
 |t::l,i=>by
  unfold l8 qp;have e:(t.f0.toList==n.toList)=lB t n:=rfl;rw[e];cases lB t n with
  |true=>rfl
  |false=>exact Ul n l (i+1)
theorem AK (a:GTask)(b:Zz):Does E 84 [.agg (Wj .far a),.im .far () [tS b] 0] [Wp (lB a b)]:=by exact KY a b _ rfl
theorem gP {q0:Kd}(a:List GTask)(b:Zz)(h:a.length≤1050000):Does E 43 [.one (Wx 5 (a.map (Wj q0))),Wt b] [Wo (ay a b)]:=by exact So a b _ (by unfold Cd;rw[Wz (by omega)];exact Ul b a 0)
inductive i6 where|ret (v4:Int)|x0
def bW (q0:Kd)(v0:List GTask)(a:Zz)(v7 v8:Int):US:=stL 19 [(0,.one (Wx 5 (v0.map (Wj q0)))),(1,.fni 84 [((),[tS a])]),(7,Wr v7),(8,Wr v8)]
def dV (q0:Kd)(a:Int):US:=stL 19 [(4,Wr a)]
def eh (q0:Kd)  : US:=stL 19 []
abbrev eU:US→Exit→US→Prop:=Round E 83 (aq Tryz.f83 0)
def ol {q0:Kd}(v0:List GTask)(a:Zz)(v7 v8:Int):i6→Prop| .ret b=>Loops E 83 (aq Tryz.f83 0) (bW q0 v0 a v7 v8) .ret (dV q0 b)| .x0=>Loops E 83 (aq Tryz.f83 0) (bW q0 v0 a v7 v8) (.exit 0) (eh q0)
noncomputable def bE (a:Zz):List GTask→Nat→Option i6|[],i=>some (.x0)|hd::rest,i=>cond (lB hd a) (some (.ret (i:Int))) (bE a rest (i+1))
theorem oj {q0:Kd}(v0:List GTask)(a:Zz)(rest:List GTask):∀(i:Nat) ,(v0).drop i=rest→v0.length≤9223372036854775807→Ans (bE a rest i) (ol (q0:=q0) v0 a (v0.length:Int) (i:Int)):=by
 induction rest with
 |nil =>intro i b c;have hb:=aP b;unfold bE;exact VZ (V3 (show eU (bW q0 v0 a (v0.length:Int) (i:Int)) (.exit 0) (eh q0)from RP [.b false] (AC hb<|AN)))
 |cons hd rest g =>
  intro i b c;have hb:=aI b;have h:=aJ b c;have d:=az b;have e:=aK b;unfold bE;apply V4<;>intro f
  ·exact VZ (V3 (show eU (bW q0 v0 a (v0.length:Int) (i:Int)) .ret (dV q0 (i:Int))from RP [.b true,.row ((Wj q0) hd),rT] (AC hb<|AR (Wj q0) e<|AD (V9 (AK hd a) f)<|AN)))
  ·exact(g (i+1) d c).mono fun y j=>by have r:eU (bW q0 v0 a (v0.length:Int) (i:Int)) .normal (bW q0 v0 a (v0.length:Int) (inc (i:Int))):=RP [.b true,.row ((Wj q0) hd),rF] (AC hb<|AR (Wj q0) e<|AD (V9 (AK hd a) f)<|AN);rw[h]at r;cases y<;>exact V2 r j
noncomputable def e9 (c:List GTask)(a:Zz):Option (Int):=
  if c.length≤9223372036854775807 then(bE a c 0).bind fun y=>match y with
   | .ret b=>(some (b))
   | .x0=>(some ((-1:Int)))else none
theorem oJ {q0:Kd}(x0:List GTask)(a:Zz):Ans (e9 x0 a) (fun r=>Does E 83 [.one (Wx 5 (x0.map (Wj q0))),.fni 84 [((),[tS a])]] [Wo r]):=by
 unfold e9;apply V6;intro d;apply V5;intro y c;replace c:=oj (q0:=q0) x0 a x0 0 rfl d y c;cases y with
 |ret b =>have e:=c;exact VZ (DP Tryz.f83 [Wu (x0.length:Int),.lp .ret (dV q0 b)] (ALn x0 (Wj q0)<|AL e<|AN))
 |x0 =>have e:=c;exact VZ (DP Tryz.f83 [Wu (x0.length:Int),.lp (.exit 0) (eh q0)] (ALn x0 (Wj q0)<|AL e<|AN))
theorem Uk (n:Zz):∀(l:List GTask)(i:Nat),(bE n l i).bind (fun y=>match y with
   | .ret a=>(some (a))
   | .x0=>(some ((-1:Int))))=some (qp n l i)
 |[],i=>rfl
 |t::l,i=>by
  unfold bE qp;cases lB t n with
  |true=>rfl
  |false=>exact Uk n l (i+1)
theorem ov {q0:Kd}(b:List GTask)(a:Zz)(h:b.length≤1050000):Does E 83 [.one (Wx 5 (b.map (Wj q0))),.fni 84 [((),[tS a])]] [Wo (ay b a)]:=by exact oJ b a _ (by unfold e9;rw[Wz (by omega)];exact Uk a b 0)
noncomputable def za (a:GDag)(b:Zz):Option (Int):=if a.f5.length≤1050000 then some (ay a.f5 b)else none
theorem PO {q0:Kd}(a:GDag)(b:Zz):Ans (za a b) (fun r=>Does E 53 [.agg (Wc .far q0 a),Wt b] [Wo r]):=by unfold za;apply V6;intro c;exact VZ (DP Tryz.f53 [.ret [Wo (ay a.f5 b)]] (AV (ψ:=fun k=>E.C k 83 [.one (Wx 5 (a.f5.map (Wj q0))),.fni 84 [((),[tS b])]]=some [Wo (ay a.f5 b)]) (ov a.f5 b c)<|AN))
def ag (d:GDag)(n:Zz):Int:=ay d.f5 n
theorem fx {q0:Kd}(a:GDag)(b:Zz)(h:a.f5.length≤1050000):Does E 53 [.agg (Wc .far q0 a),Wt b] [Wo (ag a b)]:=by exact PO a b _ (by unfold za;rw[Wz h];rfl)
inductive vT where|ret (v6:Bool)|x0
def iT (q0:Kd)(a b:Zz)(c d:Int)(v0_4:Bool)(e:List GTask)(v2:List Int)(v10:List Zz)(v11 f:Int):US:=stL 25 [(0,.im .far () [tS a,tS b,tI c,tI d,tB v0_4,Wx 5 (e.map (Wj q0))] 0),(2,.one (Wx 1 (v2.map etI))),(10,.one (Wx 1 (v10.map etS))),(11,Wr v11),(12,Wr f)]
def m6 (q0:Kd)(a:Bool):US:=stL 25 [(6,Ws a)]
def ox (q0:Kd)  : US:=stL 25 []
abbrev qB:US→Exit→US→Prop:=Round E 121 (aq Tryz.f121 0)
def E5 {q0:Kd}(a b:Zz)(c d:Int)(v0_4:Bool)(e:List GTask)(v2:List Int)(v10:List Zz)(v11 f:Int):vT→Prop| .ret g=>Loops E 121 (aq Tryz.f121 0) (iT q0 a b c d v0_4 e v2 v10 v11 f) .ret (m6 q0 g)| .x0=>Loops E 121 (aq Tryz.f121 0) (iT q0 a b c d v0_4 e v2 v10 v11 f) (.exit 0) (ox q0)
noncomputable def gq (a b:Zz)(c d:Int)(e:List GTask)(v2:List Int):List Zz→Nat→Bool→Option vT|[],i,v0_4=>some (.x0)|hd::rest,i,v0_4=>if(GDag.mk a b c d v0_4 e).f5.length≤1050000 then if v2.length≤1050000 then cond (cC v2 (ag (GDag.mk a b c d v0_4 e) hd)) (gq a b c d e v2 rest (i+1) v0_4) (some (.ret false))else none else none
abbrev ZO (a b:Zz)(c d:Int)(v0_4:Bool)(e:List GTask):=GDag.mk a b c d v0_4 e
theorem E4 {q0:Kd}(a b:Zz)(c d:Int)(e:List GTask)(v2:List Int)(v10:List Zz)(rest:List Zz):∀(i:Nat)(v0_4:Bool),(v10).drop i=rest→v10.length≤9223372036854775807→Ans (gq a b c d e v2 rest i v0_4) (E5 (q0:=q0) a b c d v0_4 e v2 v10 (v10.length:Int) (i:Int)):=by
 induction rest with
 |nil =>intro i v0_4 f g;have hb:=aP f;unfold gq;exact VZ (V3 (show qB (iT q0 a b c d v0_4 e v2 v10 (v10.length:Int) (i:Int)) (.exit 0) (ox q0)from RP [.b false] (AC hb<|AN)))
 |cons hd rest o =>
  intro i v0_4 f g;have hb:=aI f;have p:=aJ f g;have h:=az f;have j:=aK f;unfold gq;apply V6;intro l;apply V6;intro m;apply V4<;>intro n
  ·exact(o (i+1) v0_4 h g).mono fun y q=>by have r:qB (iT q0 a b c d v0_4 e v2 v10 (v10.length:Int) (i:Int)) .normal (iT q0 a b c d v0_4 e v2 v10 (v10.length:Int) (inc (i:Int))):=RP [.b true,.row (etS hd),.ret [Wo (ag (ZO a b c d v0_4 e) hd)],rT] (AC hb<|AR etS j<|AV (ψ:=fun k=>E.C k 53 [.agg (Wc .far q0 (ZO a b c d v0_4 e)),Wt hd]=some [Wo (ag (ZO a b c d v0_4 e) hd)]) (fx (ZO a b c d v0_4 e) hd l)<|AD (V9 (ek v2 (ag (ZO a b c d v0_4 e) hd) m) n)<|AN);rw[p]at r;cases y<;>exact V2 r q
  ·exact VZ (V3 (show qB (iT q0 a b c d v0_4 e v2 v10 (v10.length:Int) (i:Int)) .ret (m6 q0 false)from RP [.b true,.row (etS hd),.ret [Wo (ag (ZO a b c d v0_4 e) hd)],rF] (AC hb<|AR etS j<|AV (ψ:=fun k=>E.C k 53 [.agg (Wc .far q0 (ZO a b c d v0_4 e)),Wt hd]=some [Wo (ag (ZO a b c d v0_4 e) hd)]) (fx (ZO a b c d v0_4 e) hd l)<|AD (V9 (ek v2 (ag (ZO a b c d v0_4 e) hd) m) n)<|AN)))
noncomputable def nE (a:GDag)(c:GTask)(d:List Int):Option (Bool):=
  if c.f4.length≤9223372036854775807 then(gq a.f0 a.f1 a.f2 a.f3 a.f5 d c.f4 0 a.f4).bind fun y=>match y with
   | .ret b=>(some (b))
   | .x0=>(some (true))else none
theorem Gp {q0:Kd}(x0:GDag)(a:GTask)(d:List Int):Ans (nE x0 a d) (fun r=>Does E 121 [.im .far () (Wc .far q0 x0) 0,.agg (Wj .far a),.one (Wx 1 (d.map etI))] [Wp r]):=by
 unfold nE;apply V6;intro e;apply V5;intro y c;replace c:=E4 (q0:=q0) x0.f0 x0.f1 x0.f2 x0.f3 x0.f5 d a.f4 a.f4 0 x0.f4 rfl e y c;cases y with
 |ret b =>have f:=c;exact VZ (DP Tryz.f121 [Wu (a.f4.length:Int),.lp .ret (m6 q0 b)] (ALn a.f4 etS<|AL f<|AN))
 |x0 =>have f:=c;exact VZ (DP Tryz.f121 [Wu (a.f4.length:Int),.lp (.exit 0) (ox q0)] (ALn a.f4 etS<|AL f<|AN))
def vR (ts:List GTask)(o:List Int)(t:GTask):Bool:=t.f4.all fun n=>cC o (ay ts n)
def BD (d:GDag)(t:GTask)(o:List Int):Bool:=vR d.f5 o t
theorem Rv (a b:Zz)(c e:Int)(ts:List GTask)(o:List Int)(d:ts.length≤1050000)(f:o.length≤1050000):∀(l:List Zz)(i:Nat)(z:Bool),gq a b c e ts o l i z=some (cond (l.all fun n=>cC o (ay ts n)) .x0 (.ret false))
 |[],i,z=>rfl
 |n::l,i,z=>by unfold gq;rw[Wz (show(GDag.mk a b c e z ts).f5.length≤1050000 from d),Wz f,X9,Rv a b c e ts o d f l (i+1) z];show cond (cC o (ay ts n)) _ _=_;cases cC o (ay ts n)<;>rfl
theorem Us (d:GDag)(t:GTask)(o:List Int)(a:d.f5.length≤1050000)(c:t.f4.length≤1050000)(b:o.length≤1050000):nE d t o=some (BD d t o):=by unfold nE;rw[Wz (by omega),Rv _ _ _ _ _ _ a b];show _=some (t.f4.all fun n=>cC o (ay d.f5 n));cases t.f4.all fun n=>cC o (ay d.f5 n)<;>rfl
theorem F3 {q0:Kd}(a:GDag)(b:GTask)(c:List Int)(d:a.f5.length≤1050000)(e:b.f4.length≤1050000)(f:c.length≤1050000):Does E 121 [.im .far () (Wc .far q0 a) 0,.agg (Wj .far b),.one (Wx 1 (c.map etI))] [Wp (BD a b c)]:=by exact Gp a b c _ (Us a b c d e f)
noncomputable def tc (a:GTask)(b:List Int)(c:GDag):Option (Bool):=if c.f5.length≤1050000 then if b.length≤1050000 then cond (cC b (ag c a.f0)) (some (false)) (if a.f4.length≤1050000 then some (BD c a b)else none)else none else none
theorem IL {c:Kd}(b:GTask)(d:List Int)(a:GDag):Ans (tc b d a) (fun r=>Does E 120 [.agg (Wj .far b),.im .far () [Wx 1 (d.map etI)] 0,.im .far () [tS a.f0,tS a.f1,tI a.f2,tI a.f3,tB a.f4,Wx 5 (a.f5.map (Wj c))] 0] [Wp r]):=by
 unfold tc;apply V6;intro e;apply V6;intro f;apply V4<;>intro g
 ·exact VZ (DP Tryz.f120 [.ret [Wo (ag a b.f0)],rT] (AV (ψ:=fun k=>E.C k 53 [.agg (Wc .far c a),Wt b.f0]=some [Wo (ag a b.f0)]) (fx a b.f0 e)<|AD (V9 (ek d (ag a b.f0) f) g)<|AN))
 ·apply V6;intro h;exact VZ (DP Tryz.f120 [.ret [Wo (ag a b.f0)],rF,.ret [Wp (BD a b d)]] (AV (ψ:=fun k=>E.C k 53 [.agg (Wc .far c a),Wt b.f0]=some [Wo (ag a b.f0)]) (fx a b.f0 e)<|AD (V9 (ek d (ag a b.f0) f) g)<|AV (ψ:=fun k=>E.C k 121 [.im .far () [tS a.f0,tS a.f1,tI a.f2,tI a.f3,tB a.f4,Wx 5 (a.f5.map (Wj c))] 0,.agg (Wj .far b),.one (Wx 1 (d.map etI))]=some [Wp (BD a b d)]) (F3 a b d e h f)<|AN))
def Ed (t:GTask)(o:List Int)(d:GDag):Bool := !cC o (ay d.f5 t.f0)&&vR d.f5 o t
theorem zN {d:Kd}(b:GTask)(c:List Int)(a:GDag)(e:a.f5.length≤1050000)(f:b.f4.length≤1050000)(g:c.length≤1050000):Does E 120 [.agg (Wj .far b),.im .far () [Wx 1 (c.map etI)] 0,.im .far () [tS a.f0,tS a.f1,tI a.f2,tI a.f3,tB a.f4,Wx 5 (a.f5.map (Wj d))] 0] [Wp (Ed b c a)]:=by exact IL b c a _ (by unfold tc Ed;simp only[e,f,g,W8];show cond (cC c (ay a.f5 b.f0)) _ _=_;cases cC c (ay a.f5 b.f0)<;>rfl)
inductive iO where|ret (v4:Int)|x0
def bT (q0:Kd)(qc1_1:Kd)(v0:List GTask)(a:List Int)(b c:Zz)(d e:Int)(f:Bool)(g:List GTask)(v7 v8:Int):US:=stL 19 [(0,.one (Wx 5 (v0.map (Wj q0)))),(1,.fni 120 [((),[Wx 1 (a.map etI)]),((),[tS b,tS c,tI d,tI e,tB f,Wx 5 (g.map (Wj qc1_1))])]),(7,Wr v7),(8,Wr v8)]
def dK (q0:Kd)(qc1_1:Kd)(a:Int):US:=stL 19 [(4,Wr a)]
def dW (q0:Kd)(qc1_1:Kd)  : US:=stL 19 []
abbrev eC:US→Exit→US→Prop:=Round E 83 (aq Tryz.f83 0)
def nt {q0:Kd}{qc1_1:Kd}(v0:List GTask)(a:List Int)(b c:Zz)(d e:Int)(f:Bool)(g:List GTask)(v7 v8:Int):iO→Prop| .ret h=>Loops E 83 (aq Tryz.f83 0) (bT q0 qc1_1 v0 a b c d e f g v7 v8) .ret (dK q0 qc1_1 h)| .x0=>Loops E 83 (aq Tryz.f83 0) (bT q0 qc1_1 v0 a b c d e f g v7 v8) (.exit 0) (dW q0 qc1_1)
noncomputable def bw (b:List Int)(c d:Zz)(e f:Int)(g:List GTask):List GTask→Nat→Bool→Option iO|[],i,a=>some (.x0)|hd::rest,i,a=>if(GDag.mk c d e f a g).f5.length≤1050000 then if hd.f4.length≤1050000 then if b.length≤1050000 then cond (Ed hd b (GDag.mk c d e f a g)) (some (.ret (i:Int))) (bw b c d e f g rest (i+1) a)else none else none else none
theorem nq {q0:Kd}{qc1_1:Kd}(v0:List GTask)(b:List Int)(c d:Zz)(e f:Int)(g:List GTask)(rest:List GTask):∀(i:Nat)(a:Bool),(v0).drop i=rest→v0.length≤9223372036854775807→Ans (bw b c d e f g rest i a) (nt (q0:=q0) (qc1_1:=qc1_1) v0 b c d e f a g (v0.length:Int) (i:Int)):=by
 induction rest with
 |nil =>intro i a h j;have hb:=aP h;unfold bw;exact VZ (V3 (show eC (bT q0 qc1_1 v0 b c d e f a g (v0.length:Int) (i:Int)) (.exit 0) (dW q0 qc1_1)from RP [.b false] (AC hb<|AN)))
 |cons hd rest s =>
  intro i a h j;have hb:=aI h;have t:=aJ h j;have l:=az h;have m:=aK h;unfold bw;apply V6;intro n;apply V6;intro o;apply V6;intro p;apply V4<;>intro q
  ·exact VZ (V3 (show eC (bT q0 qc1_1 v0 b c d e f a g (v0.length:Int) (i:Int)) .ret (dK q0 qc1_1 (i:Int))from RP [.b true,.row ((Wj q0) hd),rT] (AC hb<|AR (Wj q0) m<|AV (ψ:=fun k=>E.C k 120 [.agg (Wj .far hd),.im .far () [Wx 1 (b.map etI)] 0,.im .far () [tS c,tS d,tI e,tI f,tB a,Wx 5 (g.map (Wj qc1_1))] 0]=some [Wp true]) (V7 (zN hd b (GDag.mk c d e f a g) n o p) (by rw[q]))<|AN)))
  ·exact(s (i+1) a l j).mono fun y u=>by have r:eC (bT q0 qc1_1 v0 b c d e f a g (v0.length:Int) (i:Int)) .normal (bT q0 qc1_1 v0 b c d e f a g (v0.length:Int) (inc (i:Int))):=RP [.b true,.row ((Wj q0) hd),rF] (AC hb<|AR (Wj q0) m<|AV (ψ:=fun k=>E.C k 120 [.agg (Wj .far hd),.im .far () [Wx 1 (b.map etI)] 0,.im .far () [tS c,tS d,tI e,tI f,tB a,Wx 5 (g.map (Wj qc1_1))] 0]=some [Wp false]) (V7 (zN hd b (GDag.mk c d e f a g) n o p) (by rw[q]))<|AN);rw[t]at r;cases y<;>exact V2 r u
noncomputable def da (d:List GTask)(b:List Int)(a:GDag):Option (Int):=
  if d.length≤9223372036854775807 then(bw b a.f0 a.f1 a.f2 a.f3 a.f5 d 0 a.f4).bind fun y=>match y with
   | .ret c=>(some (c))
   | .x0=>(some ((-1:Int)))else none
abbrev ZQ (x0:List GTask)(q0:Kd):=Wx 5 (x0.map (Wj q0))
theorem om {q0:Kd}{qc1_1:Kd}(x0:List GTask)(b:List Int)(a:GDag):Ans (da x0 b a) (fun r=>Does E 83 [.one (ZQ x0 q0),.fni 120 [((),[Wx 1 (b.map etI)]),((),[tS a.f0,tS a.f1,tI a.f2,tI a.f3,tB a.f4,Wx 5 (a.f5.map (Wj qc1_1))])]] [Wo r]):=by
 unfold da;apply V6;intro e;apply V5;intro y d;replace d:=nq (q0:=q0) (qc1_1:=qc1_1) x0 b a.f0 a.f1 a.f2 a.f3 a.f5 x0 0 a.f4 rfl e y d;cases y with
 |ret c =>have f:=d;exact VZ (DP Tryz.f83 [Wu (x0.length:Int),.lp .ret (dK q0 qc1_1 c)] (ALn x0 (Wj q0)<|AL f<|AN))
 |x0 =>have f:=d;exact VZ (DP Tryz.f83 [Wu (x0.length:Int),.lp (.exit 0) (dW q0 qc1_1)] (ALn x0 (Wj q0)<|AL f<|AN))
def gD (o:List Int)(ts:List GTask):List GTask→Nat→Option Nat|[],_=>none|t::r,i=>if(!cC o (ay ts t.f0)&&vR ts o t)=true then some i else gD o ts r (i+1)
def c8 (l:List GTask)(o:List Int)(d:GDag):Int:=match gD o d.f5 l 0 with|some i=>(i:Int)|none => -1
theorem RT (o:List Int)(a b:Zz)(c e:Int)(ts:List GTask)(f:ts.length≤1050000)(g:o.length≤1050000):∀(l:List GTask)(i:Nat)(z:Bool),ab.sm l→bw o a b c e ts l i z=some (match gD o ts l i with|some k=>.ret (k:Int)|none=>.x0)
 |[],i,z,_=>rfl
 |t::l,i,z,d=>by unfold bw gD;have h:t.f4.length≤1050000:=(d.2 t (by simp)).2.2.1;rw[Wz (show(GDag.mk a b c e z ts).f5.length≤1050000 from f),Wz h,Wz g,RT o a b c e ts f g l (i+1) z ⟨by have:=d.1;simp at this;omega,fun y j=>d.2 y (by simp[j])⟩];show cond (!cC o (ay ts t.f0)&&vR ts o t) _ _=_;cases(!cC o (ay ts t.f0)&&vR ts o t)<;>rfl
theorem UB (l:List GTask)(o:List Int)(d:GDag)(a:ab.sm l)(b:d.f5.length≤1050000)(c:o.length≤1050000):da l o d=some (c8 l o d):=by unfold da c8;rw[Wz (by have:=a.1;omega),RT o d.f0 d.f1 d.f2 d.f3 d.f5 b c l 0 d.f4 a];cases gD o d.f5 l 0<;>rfl
theorem iQ {q0:Kd}{qc1_1:Kd}(c:List GTask)(b:List Int)(a:GDag)(d:ab.sm c)(e:a.f5.length≤1050000)(f:b.length≤1050000):Does E 83 [.one (Wx 5 (c.map (Wj q0))),.fni 120 [((),[Wx 1 (b.map etI)]),((),[tS a.f0,tS a.f1,tI a.f2,tI a.f3,tB a.f4,Wx 5 (a.f5.map (Wj qc1_1))])]] [Wo (c8 c b a)]:=by exact om c b a _ (UB c b a d e f)
inductive By where|ret (v2:List Int)
def qE (q0:Kd)(a b:Zz)(c d:Int)(e:Bool)(f:List GTask)(g:List Int):US:=stL 16 [(1,.box () [tS a,tS b,tI c,tI d,tB e,Wx 5 (f.map (Wj q0))]),(3,.box () [Ww 1 (g.map etI)])]
def mK (q0:Kd)(a:List Int):US:=stL 16 [(2,.one (Ww 1 (a.map etI)))]
abbrev Bx:US→Exit→US→Prop:=Round E 103 (aq Tryz.f103 0)
def K2 {q0:Kd}(a b:Zz)(c d:Int)(e:Bool)(f:List GTask)(g:List Int):By→Prop| .ret h=>Loops E 103 (aq Tryz.f103 0) (qE q0 a b c d e f g) .ret (mK q0 h)
noncomputable def lc (c d:Zz)(e f:Int)(a:List GTask):Nat→Bool→(List Int)→Option By| 0,_,_=>none|n+1,g,b=>if ab.sm a then if(GDag.mk c d e f g a).f5.length≤1050000 then if b.length≤1050000 then cond (decide ((c8 a b (GDag.mk c d e f g a))<(0:Int))) (some (.ret b)) (if(b.length+([c8 a b (GDag.mk c d e f g a)]).length)*8≤140737488355328∧b.length+([c8 a b (GDag.mk c d e f g a)]).length≤4611686018427387904 then lc c d e f a n g (b++([c8 a b (GDag.mk c d e f g a)]))else none)else none else none else none
abbrev ZT (a:List GTask)(b:List Int)(d e:Zz)(f g:Int)(c:Bool):=([c8 a b (ZO d e f g c a)]).map etI
theorem K1 {q0:Kd}(d e:Zz)(f g:Int)(a:List GTask)(n:Nat):∀(c:Bool)(b:List Int),Ans (lc d e f g a n c b) (K2 (q0:=q0) d e f g c a b):=by
 induction n with
 |zero=>intros;exact Ans.none
 |succ n m =>
  intro c b;unfold lc;apply V6;intro h;apply V6;intro i;apply V6;intro j;apply V4<;>intro l
  ·exact VZ (V3 (show Bx (qE q0 d e f g c a b) .ret (mK q0 b)from Round.to (RP (D':=stL 16 [(2,.one (Ww 1 (((b.map etI).drop 0).take (b.map etI).length)))]) [.ret [Wo (c8 a b (ZO d e f g c a))],.b true] (AV (ψ:=fun k=>E.C k 83 [.one (ZQ a q0),.fni 120 [((),[Wx 1 (b.map etI)]),((),[tS d,tS e,tI f,tI g,tB c,Wx 5 (a.map (Wj q0))])]]=some [Wo (c8 a b (ZO d e f g c a))]) (iQ a b (ZO d e f g c a) h i j)<|AC l<|AN)) (by simp only[mK,Xb,W9])))
  ·apply V6;intro o;have r:Bx (qE q0 d e f g c a b) .normal (qE q0 d e f g c a (b++([c8 a b (ZO d e f g c a)]))):=RP [.ret [Wo (c8 a b (ZO d e f g c a))],.b false,.rows ((b++([c8 a b (ZO d e f g c a)])).map etI)] (AV (ψ:=fun k=>E.C k 83 [.one (ZQ a q0),.fni 120 [((),[Wx 1 (b.map etI)]),((),[tS d,tS e,tI f,tI g,tB c,Wx 5 (a.map (Wj q0))])]]=some [Wo (c8 a b (ZO d e f g c a))]) (iQ a b (ZO d e f g c a) h i j)<|AC l<|AC (p:=(((ZT a b d e f g c).drop 0).take (ZT a b d e f g c).length).all (fun r=>r.all T.flat)=true∧((((b.map etI).drop 0).take (b.map etI).length).length+(((ZT a b d e f g c).drop 0).take (ZT a b d e f g c).length).length)*8≤140737488355328∧(((b.map etI).drop 0).take (b.map etI).length).length+(((ZT a b d e f g c).drop 0).take (ZT a b d e f g c).length).length≤4611686018427387904) (by simp only[Xb,W9];exact Cu (fun x=>rfl) o)<|AC (p:=(((b.map etI).drop 0).take (b.map etI).length)++(((ZT a b d e f g c).drop 0).take (ZT a b d e f g c).length)=(b++([c8 a b (ZO d e f g c a)])).map etI) (by simp only[Xb,W9];exact mU)<|AN);exact(m c (b++([c8 a b (ZO d e f g c a)]))).mono fun y q=>by cases y<;>exact V2 r q
noncomputable def sA (a:GDag):Option ((List Int)):=
  (lc a.f0 a.f1 a.f2 a.f3 a.f5 9223372036854775808 a.f4 ([])).bind fun y=>match y with
   | .ret b=>(some (b))
theorem Nm {q0:Kd}(a:GDag):Ans (sA a) (fun r=>Does E 103 [.agg (Wc .far q0 a)] [(false,[Ww 1 (r.map etI)])]):=by
 unfold sA;apply V5;intro y c;replace c:=K1 (q0:=q0) a.f0 a.f1 a.f2 a.f3 a.f5 9223372036854775808 a.f4 ([]) y c;cases y with
 |ret b =>have d:=c;exact VZ (DP Tryz.f103 [.lp .ret (mK q0 b)] (AL d<|AN))
def df (ts:List GTask):Prop:=ts.length≤4∧∀(i:Nat)(t:GTask),ts[i]?=some t→ay ts t.f0=(i:Int)
def lj (ts:List GTask):Nat→List Int→List Int
 | 0,o=>o
 |k+1,o=>match gD o ts ts 0 with|none=>o|some i=>lj ts k (o++[(i:Int)])
def cn (ts:List GTask):List Int:=lj ts ts.length []
def cR (d:GDag):List Int:=cn d.f5
theorem rC {o:List Int}{x:Int}:cC o x=true↔x∈o:=by
 unfold cC;rw[XX];constructor
 ·rintro⟨y,h,e⟩;rw[Yc]at e;subst e;exact h
 ·intro h;exact⟨x,h,by simp⟩
theorem tw {o:List Int}{ts:List GTask}:∀{l:List GTask}{i k:Nat},gD o ts l i=some k→∃t j,k=i+j∧l[j]?=some t∧cC o (ay ts t.f0)=false∧vR ts o t=true
 |[],i,k,h=>by cases h
 |t::l,i,k,h=>by
  unfold gD at h;split at h
  ·rename_i q;cases h;simp only[W0,Zp]at q;exact⟨t,0,rfl,rfl,q.1,q.2⟩
  ·obtain⟨u,j,c,a,b⟩:=tw h;exact⟨u,j+1,by omega,a,b⟩
def CA (n:Nat)(o:List Int):Nat:=((List.range n).filter fun i:Nat => !cC o (i:Int)).length
theorem H3 {α:Type}{p q:α→Bool}:∀{l:List α},(∀y,q y=true→p y=true)→(l.filter q).length≤(l.filter p).length
 |[],_=>by simp
 |z::l,h=>by
  have b:=H3 (l:=l) h;rw[XY,XY];cases a:q z with
  |true=>rw[h z a];simpa using b
  |false=>cases p z<;>simp<;>omega
theorem H4 {α:Type}{p q:α→Bool}{x:α}:∀{l:List α},(∀y,q y=true→p y=true)→x∈l→p x=true→q x=false→(l.filter q).length<(l.filter p).length
 |y::l,h,hx,b,c=>by
  have le:=H3 (l:=l) h;rw[XY,XY];rcases WZ.1 hx with rfl|hx
  ·rw[b,c];simp;omega
  ·have:=H4 (l:=l) h hx b c;cases a:q y with
   |true=>rw[h y a];simpa using this
   |false=>cases p y<;>simp<;>omega
theorem RR {n i:Nat}{o:List Int}(hi:i<n)(h:cC o (i:Int)=false):CA n (o++[(i:Int)])<CA n o:=by
 unfold CA;refine H4 (p:=fun i:Nat => !cC o (i:Int)) (q:=fun j:Nat => !cC (o++[(i:Int)]) (j:Int)) (x:=i) (fun y a=>?_) (Xm.2 hi) (by rw[h];rfl) ?_
 ·rw[Zp]at a ⊢;rw[←Ys,rC]at a ⊢;exact fun e=>a (by simp[e])
 ·have:cC (o++[(i:Int)]) (i:Int)=true:=rC.2 (by simp);rw[this];rfl
theorem Tj (n:Nat):CA n []=n:=by
 unfold CA;have:(List.range n).filter (fun i:Nat => !cC [] (i:Int))=List.range n:=List.filter_eq_self.2 fun a _=>rfl
 rw[this,Zm]
theorem OM (a b:Zz)(c e:Int)(ts:List GTask)(hs:ab.sm ts)(h:df ts):∀(k n:Nat)(o:List Int)(z:Bool),CA ts.length o≤k→k<n→o.length+k≤1000→lc a b c e ts n z o=some (.ret (lj ts k o))
 |k,0,o,z,_,r,_=>by omega
 |k,n+1,o,z,v,r,w=>by
  unfold lc;rw[Wz hs,Wz (show(GDag.mk a b c e z ts).f5.length≤1050000 from hs.1),Wz (by omega)];have s:c8 ts o (GDag.mk a b c e z ts)=match gD o ts ts 0 with|some i=>(i:Int)|none => -1:=rfl
  rw[s];cases q:gD o ts ts 0 with
  |none =>
   have:lj ts k o=o:=by
    cases k with
    |zero=>rfl
    |succ k=>unfold lj;rw[q]
   rw[this];rfl
  |some i =>
   obtain⟨t,j,x,d,l,y⟩:=tw q;have f:i=j:=by omega
   subst f;rw[h.2 i t d]at l;have hi:i<ts.length:=by
    rcases WI i ts.length with g|g
    ·exact g
    ·rw[WF g]at d;cases d
   have p:=RR hi l;obtain⟨k,rfl⟩:∃m,k=m+1:=⟨k-1,by omega⟩
   have u:=OM a b c e ts hs h k n (o++[(i:Int)]) z (by omega) (by omega) (by simp;omega);simp only;rw[WH (by omega),WO,Wz (by simp;omega),u]
   conv=>rhs;unfold lj
   rw[q]
theorem R3 (d:GDag)(h:ab.sm d)(a:df d.f5):sA d=some (cR d):=by have hs:ab.sm d.f5:=h.2.2;unfold sA;have:=OM d.f0 d.f1 d.f2 d.f3 d.f5 hs a d.f5.length 9223372036854775808 [] d.f4 (by rw[Tj];exact Xj _) (by have:=a.1;omega) (by have:=a.1;simp;omega);refine(WV (Option.bind · _) this).trans rfl
theorem wF {q0:Kd}(a:GDag)(h:ab.sm a)(b:df a.f5):Does E 103 [.agg (Wc .far q0 a)] [(false,[Ww 1 ((cR a).map etI)])]:=by exact Nm a _ (R3 a h b)
inductive Au where|x4 (v6:Bool)
def je (q0:Kd)(v0:List GTask)(v3:List Int)(v4 v5:Int)(v6:Bool)(v7:Int):US:=stL 57 [(0,.one (Wx 5 (v0.map (Wj q0)))),(3,.one (Ww 1 (v3.map etI))),(4,Wr v4),(5,Wr v5),(6,Ws v6),(7,Wr v7)]
def kJ (q0:Kd)(v0:List GTask)(v3:List Int)(v4 v5:Int)(a:Bool):US:=stL 57 [(0,.one (Wx 5 (v0.map (Wj q0)))),(3,.one (Ww 1 (v3.map etI))),(4,Wr v4),(5,Wr v5),(6,Ws a)]
abbrev pv:US→Exit→US→Prop:=Round E 67 (aq Tryz.f67 2)
def JG {q0:Kd}(v0:List GTask)(v3:List Int)(v4 v5:Int)(v6:Bool)(v7:Int):Au→Prop| .x4 a=>Loops E 67 (aq Tryz.f67 2) (je q0 v0 v3 v4 v5 v6 v7) (.exit 4) (kJ q0 v0 v3 v4 v5 a)
noncomputable def hZ (v0:List GTask)(v3:List Int)(v5:Int):Nat→Bool→Int→Option Au
 | 0,_,_=>none
 |n+1,v6,v7=>match v6 with
  |true=>(ar v0 v5).bind fun a=>cond (decide (v7<(a.f4.length:Int)))
   ((ar a.f4 v7).bind fun g1=>if v0.length≤1050000 then if v3.length≤1050000 then hZ v0 v3 v5 n (cC v3 (ay v0 g1)) (inc v7)else none else none)
   (some (.x4 v6))
  |false=>(ar v0 v5).bind fun a=>cond (decide (v7<(a.f4.length:Int)))
   (hZ v0 v3 v5 n false (inc v7))
   (some (.x4 v6))
theorem JD {q0:Kd}(v0:List GTask)(v3:List Int)(v4 v5:Int)(n:Nat):∀(v6:Bool)(v7:Int),Ans (hZ v0 v3 v5 n v6 v7) (JG (q0:=q0) v0 v3 v4 v5 v6 v7):=by
 induction n with
 |zero=>intros;exact Ans.none
 |succ n e =>
  intro v6 v7;unfold hZ;cases v6 with
  |true =>
   apply V5;intro a b;apply V4<;>intro c
   ·apply V5;intro g1 f;apply V6;intro g;apply V6;intro h;have r:pv (je q0 v0 v3 v4 v5 true v7) .normal (je q0 v0 v3 v4 v5 (cC v3 (ay v0 g1)) (inc v7)):=RP [.row ((Wj q0) a),Wu (a.f4.length:Int),.b true,.row ((Wj q0) a),.row (etS g1),.ret [Wo (ay v0 g1)],.ret [Wp (cC v3 (ay v0 g1))]] (AR (Wj q0) b<|ALn a.f4 etS<|AC c<|AR (Wj q0) b<|AR etS f<|AV (ψ:=fun k=>E.C k 43 [.one (ZQ v0 q0),Wt g1]=some [Wo (ay v0 g1)]) (gP v0 g1 g)<|AV (ψ:=fun k=>E.C k 96 [.one (Wx 1 (((v3.map etI).drop 0).take (v3.map etI).length)),Wr (ay v0 g1)]=some [Wp (cC v3 (ay v0 g1))]) (V8 (by simp only[Xb,W9]) (vF v3 (ay v0 g1) h))<|AN);exact(e (cC v3 (ay v0 g1)) (inc v7)).mono fun y d=>by cases y<;>exact V2 r d
   ·exact VZ (V3 (show pv (je q0 v0 v3 v4 v5 true v7) (.exit 4) (kJ q0 v0 v3 v4 v5 true)from RP [.row ((Wj q0) a),Wu (a.f4.length:Int),.b false] (AR (Wj q0) b<|ALn a.f4 etS<|AC c<|AN)))
  |false =>
   apply V5;intro a b;apply V4<;>intro c
   ·have r:pv (je q0 v0 v3 v4 v5 false v7) .normal (je q0 v0 v3 v4 v5 false (inc v7)):=RP [.row ((Wj q0) a),Wu (a.f4.length:Int),.b true] (AR (Wj q0) b<|ALn a.f4 etS<|AC c<|AN);exact(e false (inc v7)).mono fun y d=>by cases y<;>exact V2 r d
   ·exact VZ (V3 (show pv (je q0 v0 v3 v4 v5 false v7) (.exit 4) (kJ q0 v0 v3 v4 v5 false)from RP [.row ((Wj q0) a),Wu (a.f4.length:Int),.b false] (AR (Wj q0) b<|ALn a.f4 etS<|AC c<|AN)))
inductive At where|x2 (v3:List Int)
def hY (q0:Kd)(v0:List GTask)(v3:List Int)(v4 v5:Int):US:=stL 57 [(0,.one (Wx 5 (v0.map (Wj q0)))),(3,.one (Ww 1 (v3.map etI))),(4,Wr v4),(5,Wr v5)]
def rm (q0:Kd)(v0:List GTask)(v4:Int)(a:List Int):US:=stL 57 [(0,.one (Wx 5 (v0.map (Wj q0)))),(3,.one (Ww 1 (a.map etI))),(4,Wr v4)]
abbrev pu:US→Exit→US→Prop:=Round E 67 (aq Tryz.f67 1)
def JF {q0:Kd}(v0:List GTask)(v3:List Int)(v4 v5:Int):At→Prop| .x2 a=>Loops E 67 (aq Tryz.f67 1) (hY q0 v0 v3 v4 v5) (.exit 2) (rm q0 v0 v4 a)
noncomputable def eI (v0:List GTask):Nat→(List Int)→Int→Option At
 | 0,_,_=>none
 |n+1,v3,v5=>cond (decide (v5<(v0.length:Int)))
  (if v3.length≤1050000 then cond (cC v3 v5)
   (eI v0 n v3 (inc v5))
   ((hZ v0 v3 v5 9223372036854775808 true 0).bind fun y=>match y with
    | .x4 a=>(match a with
     |true=>if(v3.length+([v5]).length)*8≤140737488355328∧v3.length+([v5]).length≤4611686018427387904 then eI v0 n (v3++([v5])) (inc (v0.length:Int))else none
     |false=>eI v0 n v3 (inc v5)))else none)
  (some (.x2 v3))
theorem JC {q0:Kd}(v0:List GTask)(v4:Int)(n:Nat):∀(v3:List Int)(v5:Int),Ans (eI v0 n v3 v5) (JF (q0:=q0) v0 v3 v4 v5):=by
 induction n with
 |zero=>intros;exact Ans.none
 |succ n d =>
  intro v3 v5;unfold eI;apply V4<;>intro c
  ·apply V6;intro e;apply V4<;>intro f
   ·have r:pu (hY q0 v0 v3 v4 v5) .normal (hY q0 v0 v3 v4 (inc v5)):=RP [Wu (v0.length:Int),.b true,rT] (ALn v0 (Wj q0)<|AC c<|AV (ψ:=fun k=>E.C k 96 [.one (Wx 1 (((v3.map etI).drop 0).take (v3.map etI).length)),Wr v5]=some [Wp true]) (V8 (by simp only[Xb,W9]) (V7 (vF v3 v5 e) (by rw[f])))<|AN);exact(d v3 (inc v5)).mono fun y a=>by cases y<;>exact V2 r a
   ·apply V5;intro y a;replace a:=JD (q0:=q0) v0 v3 v4 v5 9223372036854775808 true 0 y a;cases y with
    |x4 b =>
     have g:=a;cases b with
     |true =>apply V6;intro h;have r:pu (hY q0 v0 v3 v4 v5) .normal (hY q0 v0 (v3++([v5])) v4 (inc (v0.length:Int))):=RP [Wu (v0.length:Int),.b true,rF,.lp (.exit 4) (kJ q0 v0 v3 v4 v5 true),.rows ((v3++([v5])).map etI),Wu (v0.length:Int)] (ALn v0 (Wj q0)<|AC c<|AV (ψ:=fun k=>E.C k 96 [.one (Wx 1 (((v3.map etI).drop 0).take (v3.map etI).length)),Wr v5]=some [Wp false]) (V8 (by simp only[Xb,W9]) (V7 (vF v3 v5 e) (by rw[f])))<|AL g<|AAp etI (fun _=>rfl) h<|ALn v0 (Wj q0)<|AN);exact(d (v3++([v5])) (inc (v0.length:Int))).mono fun y a=>by cases y<;>exact V2 r a
     |false =>have r:pu (hY q0 v0 v3 v4 v5) .normal (hY q0 v0 v3 v4 (inc v5)):=RP [Wu (v0.length:Int),.b true,rF,.lp (.exit 4) (kJ q0 v0 v3 v4 v5 false)] (ALn v0 (Wj q0)<|AC c<|AV (ψ:=fun k=>E.C k 96 [.one (Wx 1 (((v3.map etI).drop 0).take (v3.map etI).length)),Wr v5]=some [Wp false]) (V8 (by simp only[Xb,W9]) (V7 (vF v3 v5 e) (by rw[f])))<|AL g<|AN);exact(d v3 (inc v5)).mono fun y a=>by cases y<;>exact V2 r a
  ·exact VZ (V3 (show pu (hY q0 v0 v3 v4 v5) (.exit 2) (rm q0 v0 v4 v3)from RP [Wu (v0.length:Int),.b false] (ALn v0 (Wj q0)<|AC c<|AN)))
inductive As where|x0 (v3:List Int)
def px (q0:Kd)(v0:List GTask)(v3:List Int)(v4:Int):US:=stL 57 [(0,.one (Wx 5 (v0.map (Wj q0)))),(3,.one (Ww 1 (v3.map etI))),(4,Wr v4)]
def rl (q0:Kd)(a:List Int):US:=stL 57 [(3,.one (Ww 1 (a.map etI)))]
abbrev Ar:US→Exit→US→Prop:=Round E 67 (aq Tryz.f67 0)
def JE {q0:Kd}(v0:List GTask)(v3:List Int)(v4:Int):As→Prop| .x0 a=>Loops E 67 (aq Tryz.f67 0) (px q0 v0 v3 v4) (.exit 0) (rl q0 a)
noncomputable def jf (v0:List GTask):List GTask→Nat→(List Int)→Option As
 |[],i,v3=>some (.x0 v3)
 |hd::rest,i,v3=>(eI v0 9223372036854775808 v3 0).bind fun y=>match y with
  | .x2 a=>(jf v0 rest (i+1) a)
theorem JB {q0:Kd}(v0:List GTask)(rest:List GTask):∀(i:Nat)(v3:List Int),(v0).drop i=rest→v0.length≤9223372036854775807→Ans (jf v0 rest i v3) (JE (q0:=q0) v0 v3 (i:Int)):=by
 induction rest with
 |nil =>intro i v3 b d;have hb:=aP b;unfold jf;exact VZ (V3 (show Ar (px q0 v0 v3 (i:Int)) (.exit 0) (rl q0 v3)from RP [Wu (v0.length:Int),.b false] (ALn v0 (Wj q0)<|AC hb<|AN)))
 |cons hd rest f =>
  intro i v3 b d;have hb:=aI b;have g:=aJ b d;have e:=az b;have j:=aK b;unfold jf;apply V5;intro y c;replace c:=JC (q0:=q0) v0 (i:Int) 9223372036854775808 v3 0 y c;cases y with
  |x2 a =>have h:=c;exact(f (i+1) a e d).mono fun y c=>by have r:Ar (px q0 v0 v3 (i:Int)) .normal (px q0 v0 a (inc (i:Int))):=RP [Wu (v0.length:Int),.b true,.lp (.exit 2) (rm q0 v0 (i:Int) a)] (ALn v0 (Wj q0)<|AC hb<|AL h<|AN);rw[g]at r;cases y<;>exact V2 r c
noncomputable def rn (b:List GTask):Option ((List Int)):=
  if b.length≤9223372036854775807 then(jf b b 0 ([])).bind fun y=>match y with
   | .x0 a=>(some (a))else none
theorem Me {q0:Kd}(x0:List GTask):Ans (rn x0) (fun r=>Does E 67 [.one (Wx 5 (x0.map (Wj q0)))] [(false,[Ww 1 (r.map etI)])]):=by
 unfold rn;apply V6;intro b;apply V5;intro y c;replace c:=JB (q0:=q0) x0 x0 0 ([]) rfl b y c;cases y with
 |x0 a =>have d:=c;exact VZ (DP Tryz.f67 [.lp (.exit 0) (rl q0 a)] (AL d<|AN))
theorem L4 (ts:List GTask)(o:List Int)(i:Nat)(t:GTask)(c:ts.length≤1050000)(d:o.length≤1050000)(hi:ts[i]?=some t)(hf:t.f4.length≤1050000):∀(m k n:Nat)(b:Bool),k+m=t.f4.length→m<n →
  hZ ts o (i:Int) n b (k:Int)=some (.x4 (b&&((t.f4.drop k).all fun x=>cC o (ay ts x))))
 |m,k,0,b,_,g=>by omega
 |m,k,n+1,b,j,g=>by
  have f:ar ts (i:Int)=some t:=by rw[dA];exact hi
  unfold hZ;cases m with
  |zero =>have hd:t.f4.drop k=[]:=Xn (by omega);rw[hd];cases b<;>(simp only[f,Wy];rw[WH (by omega)];rfl)
  |succ m =>
   have a:∃x,t.f4[k]?=some x:=⟨t.f4[k]'(by omega),WE (by omega)⟩
   obtain⟨x,a⟩:=a;have hd:t.f4.drop k=x::t.f4.drop (k+1):=by rw[XQ (by omega:k<t.f4.length)];rw[WE (by omega)]at a;rw[Yn a]
   have e:inc (k:Int)=((k+1:Nat):Int):=by rw[cr _ (by omega) (by omega)];omega
   rw[hd,X9];cases b with
   |false =>simp only[f,Wy];rw[WJ (by omega),WK,e,L4 ts o i t c d hi hf m (k+1) n false (by omega) (by omega)];rfl
   |true =>
    have h:ar t.f4 (k:Int)=some x:=by rw[dA];exact a
    simp only[f,Wy];rw[WJ (by omega),WK,h,Wy,Wz c,Wz d,e,L4 ts o i t c d hi hf m (k+1) n _ (by omega) (by omega)];rfl
theorem OP (ts:List GTask)(hs:ab.sm ts)(b:df ts)(o:List Int)(l:o.length≤1000):∀(m i n:Nat),i+m=ts.length→m+1<n →
  eI ts n o (i:Int)=some (.x2 (match gD o ts (ts.drop i) i with|some k=>o++[(k:Int)]|none=>o))
 |m,i,0,_,p=>by omega
 |m,i,n+1,hi,p=>by
  have q:=b.1;unfold eI;cases m with
  |zero =>have hd:ts.drop i=[]:=Xn (by omega);rw[hd,WH (by omega)];rfl
  |succ m =>
   have a:i<ts.length:=by omega
   have f:ts[i]?=some ts[i]:=WE a;have hd:ts.drop i=ts[i]::ts.drop (i+1):=XQ a;have hf:ts[i].f4.length≤1050000:=(hs.2 ts[i] (XW _)).2.2.1;have e:inc (i:Int)=((i+1:Nat):Int):=by rw[cr _ (by omega) (by omega)];omega
   have c:=b.2 i _ f;have g:=L4 ts o i ts[i] hs.1 (by omega) f hf ts[i].f4.length 0 9223372036854775808 true (by omega) (by omega);have h:=OP ts hs b o l m (i+1) n (by omega) (by omega);rw[W9,Xa]at g;have d:hZ ts o (i:Int) 9223372036854775808 true (0:Int)=some (.x4 (vR ts o ts[i])):=g;rw[WJ (by omega),WK,Wz (by omega),hd,d,e];unfold gD;rw[c];cases cC o (i:Int)with
   |true=>rw[WK,h];rfl
   |false =>
    rw[WO,Wy];cases vR ts o ts[i]with
    |false =>simp only[h];rfl
    |true =>
     have stop:∀w,eI ts n w (inc (ts.length:Int))=some (.x2 w):=fun w=>by
      obtain⟨n,rfl⟩:∃j,n=j+1:=⟨n-1,by omega⟩
      unfold eI;rw[cr _ (by omega) (by omega),WH (by omega)];rfl
     simp only[stop];rw[Wz (by simp;omega)];rfl
theorem Ei (ts:List GTask)(hs:ab.sm ts)(a:df ts):∀(l:List GTask)(i:Nat)(o:List Int),o.length+l.length≤1000→jf ts l i o=some (.x0 (lj ts l.length o))
 |[],i,o,_=>rfl
 |x::l,i,o,b=>by
  have c:=a.1;simp only[W4]at b;unfold jf;have r:=OP ts hs a o (by omega) ts.length 0 9223372036854775808 (by omega) (by omega);rw[W9]at r;refine(WV (Option.bind · _) r).trans ?_;rw[Wy];simp only[W4];unfold lj;cases q:gD o ts ts 0 with
  |none =>
   simp only;rw[Ei ts hs a l (i+1) o (by omega)];have:∀k,lj ts k o=o:=fun k=>by
    cases k with
    |zero=>rfl
    |succ k=>unfold lj;rw[q]
   rw[this]
  |some k =>simp only;exact Ei ts hs a l (i+1) _ (by simp;omega)
theorem T5 (ts:List GTask)(hs:ab.sm ts)(a:df ts):rn ts=some (cn ts):=by have b:=a.1;unfold rn;rw[Wz (by omega),Ei ts hs a ts 0 [] (by simp;omega)];rfl
theorem uF {q0:Kd}(a:List GTask)(h:ab.sm a)(b:df a):Does E 67 [.one (Wx 5 (a.map (Wj q0)))] [(false,[Ww 1 ((cn a).map etI)])]:=by exact Me a _ (T5 a h b)
inductive C8 where|ret (v2:Bool)|x0
def it (a b:Zz)(c:Int)(d:Bool)(e v28:List Zz)(f g:Int):US:=stL 54 [(1,.box () [tS a,tS b,tI c,tB d,Wx 1 (e.map etS)]),(28,.one (Wx 1 (v28.map etS))),(29,Wr f),(30,Wr g)]
def nM (a:Bool):US:=stL 54 [(2,Ws a)]
def tg  : US:=stL 54 []
abbrev oT:US→Exit→US→Prop:=Round E 117 (aq Tryz.f117 0)
def Nq (a b:Zz)(c:Int)(d:Bool)(e v28:List Zz)(f g:Int):C8→Prop| .ret h=>Loops E 117 (aq Tryz.f117 0) (it a b c d e v28 f g) .ret (nM h)| .x0=>Loops E 117 (aq Tryz.f117 0) (it a b c d e v28 f g) (.exit 0) (tg)
noncomputable def jt (a:Zz)(b:List Zz):List Zz→Nat→Bool→Option C8|[],i,c=>some (.x0)|hd::rest,i,c=>cond (hd.toList==a.toList) (some (.ret false)) (cond (decide ((i:Int)>(0:Int))) ((ar b (IntKind.wrap .i64 ((i:Int)-(1:Int)))).bind fun g1=>cond (Op.bytesLess hd.toList g1.toList ||hd.toList==g1.toList) (some (.ret false)) (jt a b rest (i+1) c)) (jt a b rest (i+1) c))
theorem Np (b d:Zz)(e:Int)(c v28:List Zz)(rest:List Zz):∀(i:Nat)(a:Bool),(v28).drop i=rest→v28.length≤9223372036854775807→Ans (jt b c rest i a) (Nq b d e a c v28 (v28.length:Int) (i:Int)):=by
 induction rest with
 |nil =>intro i a f h;have hb:=aP f;unfold jt;exact VZ (V3 (show oT (it b d e a c v28 (v28.length:Int) (i:Int)) (.exit 0) (tg)from RP [.b false] (AC hb<|AN)))
 |cons hd rest n =>
  intro i a f h;have hb:=aI f;have o:=aJ f h;have g:=az f;have j:=aK f;unfold jt;apply V4<;>intro k
  ·exact VZ (V3 (show oT (it b d e a c v28 (v28.length:Int) (i:Int)) .ret (nM false)from RP [.b true,.row (etS hd),.b true] (AC hb<|AR etS j<|AC k<|AN)))
  ·apply V4<;>intro l
   ·apply V5;intro g1 p;apply V4<;>intro q
    ·exact VZ (V3 (show oT (it b d e a c v28 (v28.length:Int) (i:Int)) .ret (nM false)from RP [.b true,.row (etS hd),.b false,.b true,.row (etS g1),.b true] (AC hb<|AR etS j<|AC k<|AC l<|AR etS p<|AC q<|AN)))
    ·exact(n (i+1) a g h).mono fun y m=>by have r:oT (it b d e a c v28 (v28.length:Int) (i:Int)) .normal (it b d e a c v28 (v28.length:Int) (inc (i:Int))):=RP [.b true,.row (etS hd),.b false,.b true,.row (etS g1),.b false] (AC hb<|AR etS j<|AC k<|AC l<|AR etS p<|AC q<|AN);rw[o]at r;cases y<;>exact V2 r m
   ·exact(n (i+1) a g h).mono fun y m=>by have r:oT (it b d e a c v28 (v28.length:Int) (i:Int)) .normal (it b d e a c v28 (v28.length:Int) (inc (i:Int))):=RP [.b true,.row (etS hd),.b false,.b false] (AC hb<|AR etS j<|AC k<|AC l<|AN);rw[o]at r;cases y<;>exact V2 r m
noncomputable def uf (a:GTask):Option (Bool):=
  if a.f0.size≤2000000 then cond (fp a.f0)
   (cond ((cz a.f1)==(0:Int))
    (some (false))
    (cond (ak a.f2 0 3)
     (cond (decide ((a.f4.length:Int)>(4:Int)))
      (some (false))
      (if a.f4.length≤9223372036854775807 then(jt a.f0 a.f4 a.f4 0 a.f3).bind fun y=>match y with
       | .ret b=>(some (b))
       | .x0=>(some (true))else none))
     (some (false))))
   (some (false))else none
theorem P1 (x0:GTask):Ans (uf x0) (fun r=>Does E 117 [.agg (Wj .far x0)] [Wp r]):=by
 unfold uf;apply V6;intro a;apply V4<;>intro b
 ·apply V4<;>intro c
  ·exact VZ (DP Tryz.f117 [rT,.ret [Wo (cz x0.f1)],.b true] (AD (V9 (dX x0.f0 a) b)<|AD (mS x0.f1)<|AC c<|AN))
  ·apply V4<;>intro e
   ·apply V4<;>intro g
    ·exact VZ (DP Tryz.f117 [rT,.ret [Wo (cz x0.f1)],.b false,rT,Wu (x0.f4.length:Int),.b true] (AD (V9 (dX x0.f0 a) b)<|AD (mS x0.f1)<|AC c<|AD (V9 (aG x0.f2 0 3) e)<|ALn x0.f4 etS<|AC g<|AN))
    ·apply V6;intro h;apply V5;intro y f;replace f:=Np x0.f0 x0.f1 x0.f2 x0.f4 x0.f4 x0.f4 0 x0.f3 rfl h y f;cases y with
     |ret d =>have i:=f;exact VZ (DP Tryz.f117 [rT,.ret [Wo (cz x0.f1)],.b false,rT,Wu (x0.f4.length:Int),.b false,Wu (x0.f4.length:Int),.lp .ret (nM d)] (AD (V9 (dX x0.f0 a) b)<|AD (mS x0.f1)<|AC c<|AD (V9 (aG x0.f2 0 3) e)<|ALn x0.f4 etS<|AC g<|ALn x0.f4 etS<|AL i<|AN))
     |x0 =>have i:=f;exact VZ (DP Tryz.f117 [rT,.ret [Wo (cz x0.f1)],.b false,rT,Wu (x0.f4.length:Int),.b false,Wu (x0.f4.length:Int),.lp (.exit 0) (tg)] (AD (V9 (dX x0.f0 a) b)<|AD (mS x0.f1)<|AC c<|AD (V9 (aG x0.f2 0 3) e)<|ALn x0.f4 etS<|AC g<|ALn x0.f4 etS<|AL i<|AN))
   ·exact VZ (DP Tryz.f117 [rT,.ret [Wo (cz x0.f1)],.b false,rF] (AD (V9 (dX x0.f0 a) b)<|AD (mS x0.f1)<|AC c<|AD (V9 (aG x0.f2 0 3) e)<|AN))
 ·exact VZ (DP Tryz.f117 [rF] (AD (V9 (dX x0.f0 a) b)<|AN))
inductive Cg where|ret (v4:Bool)|x0
def cd (q0:Kd)(v0:List GTask)(a b:Zz)(c:Int)(d:Bool)(v5_4:List Zz)(v6:Int):US:=stL 78 [(0,.one (Wx 5 (v0.map (Wj q0)))),(5,.box () [tS a,tS b,tI c,tB d,Wx 1 (v5_4.map etS)]),(6,Wr v6)]
def fh (q0:Kd)(a:Bool):US:=stL 78 [(4,Ws a)]
def og (q0:Kd)  : US:=stL 78 []
abbrev dJ:US→Exit→US→Prop:=Round E 94 (aq Tryz.f94 0)
def Mg {q0:Kd}(v0:List GTask)(a b:Zz)(c:Int)(d:Bool)(v5_4:List Zz)(v6:Int):Cg→Prop| .ret e=>Loops E 94 (aq Tryz.f94 0) (cd q0 v0 a b c d v5_4 v6) .ret (fh q0 e)| .x0=>Loops E 94 (aq Tryz.f94 0) (cd q0 v0 a b c d v5_4 v6) (.exit 0) (og q0)
theorem Hi {q0:Kd}(v0:List GTask)(b c:Zz)(d:Int)(e:Bool)(v5_4:List Zz)(v6:Int)(a:Zz)(f:(decide (v6<(v5_4.length:Int)))=true)(g:ar v5_4 v6=some a)(h:v0.length≤1050000)(i:(decide ((ay v0 a)<(0:Int)))=true):dJ (cd q0 v0 b c d e v5_4 v6) .ret (fh q0 false):=
 RP [Wu (v5_4.length:Int),.b true,.row (etS a),.ret [Wo (ay v0 a)],.b true] (ALn v5_4 etS<|AC f<|AR etS g<|AV (ψ:=fun k=>E.C k 43 [.one (Wx 5 (v0.map (Wj q0))),Wt a]=some [Wo (ay v0 a)]) (gP v0 a h)<|AC i<|AN)
theorem Hj {q0:Kd}(v0:List GTask)(b c:Zz)(d:Int)(e:Bool)(v5_4:List Zz)(v6:Int)(a:Zz)(g:(decide (v6<(v5_4.length:Int)))=true)(f:ar v5_4 v6=some a)(h:v0.length≤1050000)(i:(decide ((ay v0 a)<(0:Int)))=false)(j:(a.toList==b.toList)=true):dJ (cd q0 v0 b c d e v5_4 v6) .ret (fh q0 false):=
 RP [Wu (v5_4.length:Int),.b true,.row (etS a),.ret [Wo (ay v0 a)],.b false,.row (etS a),.b true] (ALn v5_4 etS<|AC g<|AR etS f<|AV (ψ:=fun k=>E.C k 43 [.one (Wx 5 (v0.map (Wj q0))),Wt a]=some [Wo (ay v0 a)]) (gP v0 a h)<|AC i<|AR etS f<|AC j<|AN)
theorem Hk {q0:Kd}(v0:List GTask)(b c:Zz)(d:Int)(e:Bool)(v5_4:List Zz)(v6:Int)(a g1:Zz)(g:(decide (v6<(v5_4.length:Int)))=true)(f:ar v5_4 v6=some a)(h:v0.length≤1050000)(i:(decide ((ay v0 a)<(0:Int)))=false)(j:(a.toList==b.toList)=false)(l:(decide (v6>(0:Int)))=true)(m:ar v5_4 (IntKind.wrap .i64 (v6-(1:Int)))=some g1)(n:(!Op.bytesLess g1.toList a.toList)=true):dJ (cd q0 v0 b c d e v5_4 v6) .ret (fh q0 false):=
 RP [Wu (v5_4.length:Int),.b true,.row (etS a),.ret [Wo (ay v0 a)],.b false,.row (etS a),.b false,.b true,.row (etS g1),.row (etS a),.b true] (ALn v5_4 etS<|AC g<|AR etS f<|AV (ψ:=fun k=>E.C k 43 [.one (Wx 5 (v0.map (Wj q0))),Wt a]=some [Wo (ay v0 a)]) (gP v0 a h)<|AC i<|AR etS f<|AC j<|AC l<|AR etS m<|AR etS f<|AC n<|AN)
theorem Hl {q0:Kd}(v0:List GTask)(a c:Zz)(d:Int)(e:Bool)(v5_4:List Zz)(v6:Int)(b g1:Zz)(g:(decide (v6<(v5_4.length:Int)))=true)(f:ar v5_4 v6=some b)(h:v0.length≤1050000)(i:(decide ((ay v0 b)<(0:Int)))=false)(j:(b.toList==a.toList)=false)(l:(decide (v6>(0:Int)))=true)(m:ar v5_4 (IntKind.wrap .i64 (v6-(1:Int)))=some g1)(n:(!Op.bytesLess g1.toList b.toList)=false):dJ (cd q0 v0 a c d e v5_4 v6) .normal (cd q0 v0 a c d e v5_4 (inc v6)):=
 RP [Wu (v5_4.length:Int),.b true,.row (etS b),.ret [Wo (ay v0 b)],.b false,.row (etS b),.b false,.b true,.row (etS g1),.row (etS b),.b false] (ALn v5_4 etS<|AC g<|AR etS f<|AV (ψ:=fun k=>E.C k 43 [.one (Wx 5 (v0.map (Wj q0))),Wt b]=some [Wo (ay v0 b)]) (gP v0 b h)<|AC i<|AR etS f<|AC j<|AC l<|AR etS m<|AR etS f<|AC n<|AN)
theorem Hm {q0:Kd}(v0:List GTask)(a c:Zz)(d:Int)(e:Bool)(v5_4:List Zz)(v6:Int)(b:Zz)(g:(decide (v6<(v5_4.length:Int)))=true)(f:ar v5_4 v6=some b)(h:v0.length≤1050000)(i:(decide ((ay v0 b)<(0:Int)))=false)(j:(b.toList==a.toList)=false)(l:(decide (v6>(0:Int)))=false):dJ (cd q0 v0 a c d e v5_4 v6) .normal (cd q0 v0 a c d e v5_4 (inc v6)):=
 RP [Wu (v5_4.length:Int),.b true,.row (etS b),.ret [Wo (ay v0 b)],.b false,.row (etS b),.b false,.b false] (ALn v5_4 etS<|AC g<|AR etS f<|AV (ψ:=fun k=>E.C k 43 [.one (Wx 5 (v0.map (Wj q0))),Wt b]=some [Wo (ay v0 b)]) (gP v0 b h)<|AC i<|AR etS f<|AC j<|AC l<|AN)
theorem Hn {q0:Kd}(v0:List GTask)(a b:Zz)(c:Int)(d:Bool)(v5_4:List Zz)(v6:Int)(e:(decide (v6<(v5_4.length:Int)))=false):dJ (cd q0 v0 a b c d v5_4 v6) (.exit 0) (og q0):=
 RP [Wu (v5_4.length:Int),.b false] (ALn v5_4 etS<|AC e<|AN)
noncomputable def iM (v0:List GTask)(a:Zz)(v5_4:List Zz):List Zz→Nat→Bool→Option Cg|[],i,b=>some (.x0)|hd::rest,i,b=>if v0.length≤1050000 then cond (decide ((ay v0 hd)<(0:Int))) (some (.ret false)) (cond (hd.toList==a.toList) (some (.ret false)) (cond (decide ((i:Int)>(0:Int))) ((ar v5_4 (IntKind.wrap .i64 ((i:Int)-(1:Int)))).bind fun g1=>cond (!Op.bytesLess g1.toList hd.toList) (some (.ret false)) (iM v0 a v5_4 rest (i+1) b)) (iM v0 a v5_4 rest (i+1) b)))else none
theorem Mf {q0:Kd}(v0:List GTask)(b c:Zz)(d:Int)(v5_4:List Zz)(rest:List Zz):∀(i:Nat)(a:Bool),(v5_4).drop i=rest→v5_4.length≤9223372036854775807→Ans (iM v0 b v5_4 rest i a) (Mg (q0:=q0) v0 b c d a v5_4 (i:Int)):=by
 induction rest with
 |nil =>intro i a e k;have hb:=aP e;unfold iM;exact VZ (V3 (show dJ (cd q0 v0 b c d a v5_4 (i:Int)) (.exit 0) (og q0)from Hn (q0:=q0) v0 b c d a v5_4 (i:Int) hb))
 |cons hd rest o =>
  intro i a e k;have hb:=aI e;have p:=aJ e k;have f:=az e;have g:=aK e;unfold iM;apply V6;intro h;apply V4<;>intro j
  ·exact VZ (V3 (show dJ (cd q0 v0 b c d a v5_4 (i:Int)) .ret (fh q0 false)from Hi (q0:=q0) v0 b c d a v5_4 (i:Int) hd hb g h j))
  ·apply V4<;>intro l
   ·exact VZ (V3 (show dJ (cd q0 v0 b c d a v5_4 (i:Int)) .ret (fh q0 false)from Hj (q0:=q0) v0 b c d a v5_4 (i:Int) hd hb g h j l))
   ·apply V4<;>intro m
    ·apply V5;intro g1 q;apply V4<;>intro s
     ·exact VZ (V3 (show dJ (cd q0 v0 b c d a v5_4 (i:Int)) .ret (fh q0 false)from Hk (q0:=q0) v0 b c d a v5_4 (i:Int) hd g1 hb g h j l m q s))
     ·exact(o (i+1) a f k).mono fun y n=>by have r:dJ (cd q0 v0 b c d a v5_4 (i:Int)) .normal (cd q0 v0 b c d a v5_4 (inc (i:Int))):=Hl (q0:=q0) v0 b c d a v5_4 (i:Int) hd g1 hb g h j l m q s;rw[p]at r;cases y<;>exact V2 r n
    ·exact(o (i+1) a f k).mono fun y n=>by have r:dJ (cd q0 v0 b c d a v5_4 (i:Int)) .normal (cd q0 v0 b c d a v5_4 (inc (i:Int))):=Hm (q0:=q0) v0 b c d a v5_4 (i:Int) hd hb g h j l m;rw[p]at r;cases y<;>exact V2 r n
noncomputable def sJ (c:List GTask)(d:Int):Option (Bool):=
  (ar c d).bind fun a=>if a.f0.size≤2000000 then cond (fp a.f0)
   (if c.length≤1050000 then cond ((ay c a.f0) != d)
    (some (false))
    (cond ((cz a.f1)==(0:Int))
     (some (false))
     (cond (ak a.f2 0 3)
      (if a.f4.length≤9223372036854775807 then(iM c a.f0 a.f4 a.f4 0 a.f3).bind fun y=>match y with
       | .ret b=>(some (b))
       | .x0=>(some (true))else none)
      (some (false))))else none)
   (some (false))else none
theorem N4 {q0:Kd}(x0:List GTask)(n:Int):Ans (sJ x0 n) (fun r=>Does E 94 [.one (ZQ x0 q0),Wr n] [Wp r]):=by
 unfold sJ;apply V5;intro a b;apply V6;intro c;apply V4<;>intro d
 ·apply V6;intro e;apply V4<;>intro f
  ·exact VZ (DP Tryz.f94 [.row ((Wj q0) a),rT,.ret [Wo (ay x0 a.f0)],.b true] (AR (Wj q0) b<|AD (V9 (dy a.f0 c) d)<|AV (ψ:=fun k=>E.C k 43 [.one (ZQ x0 q0),Wt a.f0]=some [Wo (ay x0 a.f0)]) (gP x0 a.f0 e)<|AC f<|AN))
  ·apply V4<;>intro h
   ·exact VZ (DP Tryz.f94 [.row ((Wj q0) a),rT,.ret [Wo (ay x0 a.f0)],.b false,.ret [Wo (cz a.f1)],.b true] (AR (Wj q0) b<|AD (V9 (dy a.f0 c) d)<|AV (ψ:=fun k=>E.C k 43 [.one (ZQ x0 q0),Wt a.f0]=some [Wo (ay x0 a.f0)]) (gP x0 a.f0 e)<|AC f<|AD (qn a.f1)<|AC h<|AN))
   ·apply V4<;>intro j
    ·apply V6;intro l;apply V5;intro y i;replace i:=Mf (q0:=q0) x0 a.f0 a.f1 a.f2 a.f4 a.f4 0 a.f3 rfl l y i;cases y with
     |ret g =>have m:=i;exact VZ (DP Tryz.f94 [.row ((Wj q0) a),rT,.ret [Wo (ay x0 a.f0)],.b false,.ret [Wo (cz a.f1)],.b false,rT,.lp .ret (fh q0 g)] (AR (Wj q0) b<|AD (V9 (dy a.f0 c) d)<|AV (ψ:=fun k=>E.C k 43 [.one (ZQ x0 q0),Wt a.f0]=some [Wo (ay x0 a.f0)]) (gP x0 a.f0 e)<|AC f<|AD (qn a.f1)<|AC h<|AD (V9 (am a.f2 0 3) j)<|AL m<|AN))
     |x0 =>have m:=i;exact VZ (DP Tryz.f94 [.row ((Wj q0) a),rT,.ret [Wo (ay x0 a.f0)],.b false,.ret [Wo (cz a.f1)],.b false,rT,.lp (.exit 0) (og q0)] (AR (Wj q0) b<|AD (V9 (dy a.f0 c) d)<|AV (ψ:=fun k=>E.C k 43 [.one (ZQ x0 q0),Wt a.f0]=some [Wo (ay x0 a.f0)]) (gP x0 a.f0 e)<|AC f<|AD (qn a.f1)<|AC h<|AD (V9 (am a.f2 0 3) j)<|AL m<|AN))
    ·exact VZ (DP Tryz.f94 [.row ((Wj q0) a),rT,.ret [Wo (ay x0 a.f0)],.b false,.ret [Wo (cz a.f1)],.b false,rF] (AR (Wj q0) b<|AD (V9 (dy a.f0 c) d)<|AV (ψ:=fun k=>E.C k 43 [.one (ZQ x0 q0),Wt a.f0]=some [Wo (ay x0 a.f0)]) (gP x0 a.f0 e)<|AC f<|AD (qn a.f1)<|AC h<|AD (V9 (am a.f2 0 3) j)<|AN))
 ·exact VZ (DP Tryz.f94 [.row ((Wj q0) a),rF] (AR (Wj q0) b<|AD (V9 (dy a.f0 c) d)<|AN))
def asc (self:Zz):List Zz→Option Zz→Bool
 |[],_=>true
 |x::l,p => !(x.toList==self.toList)&&(match p with|some y=>Op.bytesLess y.toList x.toList|none=>true)&&asc self l (some x)
theorem Lt:∀a b:List UInt8,(Op.bytesLess a b ||a==b)= !Op.bytesLess b a
 |[],[]=>rfl
 |[],_::_=>rfl
 |_::_,[]=>rfl
 |x::a,y::b=>by
  have g:=Lt a b;unfold Op.bytesLess;have e:(x::a==y::b)=(x==y&&a==b):=rfl;rw[e];rcases YH x.toNat y.toNat with h|h|h
  ·have d:x<y:=X6.2 h;have c:¬y<x:=fun q=>by have:=X6.1 q;omega
   have f:(y==x)=false:=by rw[Xy];intro q;subst q;omega
   simp[d,c,f]
  ·have i:x=y:=Zw.1 h;subst i;have c:¬x<x:=fun q=>by have:=X6.1 q;omega
   simp only[c,decide_false,YD,beq_self_eq_true,Xa];exact g
  ·have d:y<x:=X6.2 h;have c:¬x<y:=fun q=>by have:=X6.1 q;omega
   have f:(x==y)=false:=by rw[Xy];intro q;subst q;omega
   simp[d,c,f]
theorem De:∀a:List UInt8,Op.bytesLess a a=false
 |[]=>rfl
 |x::a=>by
  unfold Op.bytesLess;have b:¬x<x:=fun q=>by have:=X6.1 q;omega
  simp[b,De a]
theorem Fw:∀{a b c:List UInt8},Op.bytesLess a b=true→Op.bytesLess b c=true→Op.bytesLess a c=true
 |[],[],_,h,_=>by cases h
 |[],_::_,[],_,h=>by cases h
 |[],_::_,_::_,_,_=>rfl
 |_::_,[],_,h,_=>by cases h
 |_::_,_::_,[],_,h=>by cases h
 |x::a,y::b,z::c,e,d=>by
  unfold Op.bytesLess at *;simp only[YN,Xv,W0,Yc,X6]at *;rcases e with e|⟨rfl,e⟩
  ·rcases d with d|⟨rfl,d⟩
   ·exact .inl (by omega)
   ·exact .inl e
  ·rcases d with d|⟨rfl,d⟩
   ·exact .inl d
   ·exact .inr ⟨rfl,Fw e d⟩
theorem vH (self:Zz):∀(l:List Zz)(p:Option Zz),asc self l p=true→(l.map tx).Nodup∧∀y,p=some y→∀x∈l,Op.bytesLess (tx y) (tx x)=true
 |[],p,_=>⟨by simp,fun y _ x hx=>by cases hx⟩
 |z::l,p,h=>by
  unfold asc at h;simp only[W0]at h;obtain⟨c,d⟩:=vH self l (some z) h.2;have a:=d z rfl;refine⟨?_,fun y e x hx=>?_⟩
  ·rw[WT,Za];refine⟨fun q=>?_,c⟩;obtain⟨w,f,e⟩:=WU.1 q;have:=a w f;rw[e,De]at this;cases this
  ·subst e;have b:Op.bytesLess (tx y) (tx z)=true:=by have:=h.1.2;simp only[Ga]at this;exact this
   rcases WZ.1 hx with rfl|hx
   ·exact b
   ·exact Fw b (a x hx)
theorem OV {α:Type}[DecidableEq α]:∀{l m:List α},l.Nodup→(∀x∈l,x∈m)→l.length≤m.length
 |[],_,_,_=>YM _
 |x::l,m,h,a=>by
  rw[Za]at h;have b:=a x (by simp);have:=OV (l:=l) (m:=m.erase x) h.2 fun y c=>(List.mem_erase_of_ne (fun e=>h.1 (by rw[←e];exact c))).2 (a y (by simp[c]))
  rw[YO b]at this;have:0<m.length:=YV b;simp only[W4];omega
theorem Tx (self:Zz)(aL:List Zz)(c:aL.length≤1050000):∀(rest:List Zz)(i:Nat)(z:Bool),aL.drop i=rest→jt self aL rest i z=some (cond (asc self rest (if i=0 then none else aL[i-1]?)) .x0 (.ret false))
 |[],i,z,_=>rfl
 |x::rest,i,z,h=>by
  have a:=Tx self aL c rest (i+1) z (az h);have d:(if i+1=0 then none else aL[i+1-1]?)=some x:=by rw[WM (by omega)];show aL[i]?=some x;rw[←YE,h];rfl
  rw[d]at a;unfold jt asc;rw[a];cases x.toList==self.toList with
  |true=>rfl
  |false =>
   rw[WO];by_cases q:i=0
   ·subst q;rw[WH (by omega),Wz rfl,WO];rfl
   ·have hi:i-1<aL.length:=by
     rcases WI i aL.length with g|g
     ·omega
     ·rw[Xn g]at h;cases h
    have e:i≤aL.length:=by
     rcases WI i aL.length with g|g
     ·omega
     ·rw[Xn g]at h;cases h
    have b:aL[i-1]?=some aL[i-1]:=WE hi;have f:ar aL (IntKind.wrap .i64 ((i:Int)-1))=some aL[i-1]:=by rw[dR _ (by omega) (by omega),show((i:Int)-1)=((i-1:Nat):Int) by omega,dA,b]
    rw[WJ (by omega),WM q,WK,f,Wy,b,Lt];simp only[YQ,Xa];cases Op.bytesLess aL[i-1].toList x.toList<;>rfl
theorem Tz (ts:List GTask)(a:ts.length≤1050000)(self:Zz)(aL:List Zz)(d:aL.length≤1050000):∀(rest:List Zz)(i:Nat)(z:Bool),aL.drop i=rest→iM ts self aL rest i z=some (cond (asc self rest (if i=0 then none else aL[i-1]?)&&rest.all fun n=>decide (0≤ay ts n)) .x0 (.ret false))
 |[],i,z,_=>rfl
 |x::rest,i,z,h=>by
  have b:=Tz ts a self aL d rest (i+1) z (az h);have e:(if i+1=0 then none else aL[i+1-1]?)=some x:=by rw[WM (by omega)];show aL[i]?=some x;rw[←YE,h];rfl
  rw[e]at b;unfold iM asc;rw[b,Wz a,X9];by_cases w:ay ts x<0
  ·rw[WJ w,WH (by omega:¬ 0≤ay ts x),YP,Yt];rfl
  ·rw[WH w,WJ (by omega:0≤ay ts x),Xa,WO];cases x.toList==self.toList with
   |true=>rfl
   |false =>
    rw[WO];by_cases q:i=0
    ·subst q;rw[WH (by omega),Wz rfl,WO];rfl
    ·have hi:i-1<aL.length:=by
      rcases WI i aL.length with g|g
      ·omega
      ·rw[Xn g]at h;cases h
     have f:i≤aL.length:=by
      rcases WI i aL.length with g|g
      ·omega
      ·rw[Xn g]at h;cases h
     have c:aL[i-1]?=some aL[i-1]:=WE hi;have j:ar aL (IntKind.wrap .i64 ((i:Int)-1))=some aL[i-1]:=by rw[dR _ (by omega) (by omega),show((i:Int)-1)=((i-1:Nat):Int) by omega,dA,c]
     rw[WJ (by omega),WM q,WK,j,Wy,c];simp only[YQ,Xa];cases Op.bytesLess aL[i-1].toList x.toList<;>rfl
noncomputable def vq (t:GTask):Bool:=fp t.f0&&((cz t.f1 != 0)&&(ak t.f2 0 3&&(decide (t.f4.length≤4)&&asc t.f0 t.f4 none)))
noncomputable def kV (ts:List GTask)(i:Int)(t:GTask):Bool:=fp t.f0&&((ay ts t.f0==i)&&((cz t.f1 != 0)&&(ak t.f2 0 3&&(asc t.f0 t.f4 none&&t.f4.all fun n=>decide (0≤ay ts n)))))
noncomputable def qj (ts:List GTask)(i:Int):Bool:=match ar ts i with|some t=>kV ts i t|none=>false
theorem OU {t:GTask}(h:ab.sm t):t.f0.size≤2000000:=by have:t.f0.size≤1050000:=h.1;omega
theorem Tt (t:GTask)(h:ab.sm t):uf t=some (vq t):=by
 have a:t.f4.length≤1050000:=h.2.2.1;unfold uf vq;rw[Wz (OU h)];cases fp t.f0 with
 |false=>rfl
 |true =>
  have e:(cz t.f1 != 0)= !(cz t.f1==0):=rfl;rw[WK,Xa,e];cases cz t.f1==0 with
  |true=>rfl
  |false =>
   rw[WO,YQ,Xa];cases ak t.f2 0 3 with
   |false=>rfl
   |true =>
    rw[WK,Xa];by_cases q:t.f4.length≤4
    ·rw[WH (by omega),WO,WJ q,Wz (by omega),Tx t.f0 t.f4 a t.f4 0 t.f3 rfl,Wz rfl,Xa];cases asc t.f0 t.f4 none<;>rfl
    ·rw[WJ (by omega),WH q];rfl
theorem Ol (ts:List GTask)(i:Int)(h:ab.sm ts)(hi:0≤i∧i<(ts.length:Int)):sJ ts i=some (qj ts i):=by
 obtain⟨t,b,c⟩:=eK hi;have a:=h.2 t c;have d:t.f4.length≤1050000:=a.2.2.1;unfold sJ qj kV;rw[b,Wy,Wz (OU a)];simp only;cases fp t.f0 with
 |false=>rfl
 |true =>
  have f:(ay ts t.f0 != i)= !(ay ts t.f0==i):=rfl;have e:(cz t.f1 != 0)= !(cz t.f1==0):=rfl;rw[WK,Xa,Wz h.1,f,e];cases ay ts t.f0==i with
  |false=>rfl
  |true =>
   rw[Xq,WO,Xa];cases cz t.f1==0 with
   |true=>rfl
   |false =>
    rw[WO,YQ,Xa];cases ak t.f2 0 3 with
    |false=>rfl
    |true =>rw[WK,Xa,Wz (by omega),Tz ts h.1 t.f0 t.f4 d t.f4 0 t.f3 rfl,Wz rfl];cases(asc t.f0 t.f4 none&&t.f4.all fun n=>decide (0≤ay ts n))<;>rfl
theorem QM (ts:List GTask)(f:ts.length≤4)(i:Int)(t:GTask):kV ts i t=(vq t&&((ay ts t.f0==i)&&t.f4.all fun n=>decide (0≤ay ts n))):=by
 unfold kV vq;by_cases q:asc t.f0 t.f4 none=true∧(t.f4.all fun n=>decide (0≤ay ts n))=true
 ·have a:t.f4.length≤4:=by
   have:=OV (l:=t.f4.map tx) (m:=ts.map fun u=>tx u.f0) (vH t.f0 t.f4 none q.1).1 (fun x b=>by obtain⟨n,c,rfl⟩:=WU.1 b;have:=WS.1 q.2 n c;obtain⟨u,d,e⟩:=Ok (Yo this);exact WU.2 ⟨u,d,e⟩);simp only[W6]at this;omega
  rw[WJ a,q.1,q.2];cases fp t.f0<;>cases ay ts t.f0==i<;>cases cz t.f1 != 0<;>cases ak t.f2 0 3<;>rfl
 ·have hf:(asc t.f0 t.f4 none&&t.f4.all fun n=>decide (0≤ay ts n))=false:=by rw[←Ys,W0];exact q
  rw[hf];revert hf;generalize (t.f4.all fun n=>decide (0≤ay ts n))=B;generalize asc t.f0 t.f4 none=A;generalize decide (t.f4.length≤4)=C;intro hf;cases A<;>cases B<;>simp at hf<;>cases fp t.f0<;>cases ay ts t.f0==i<;>cases cz t.f1 != 0<;>cases ak t.f2 0 3<;>cases C<;>rfl
theorem tW (a:GTask)(h:ab.sm a):Does E 117 [.agg (Wj .far a)] [Wp (vq a)]:=by exact P1 a _ (Tt a h)
theorem CQ {q0:Kd}(a:List GTask)(b:Int)(h:ab.sm a)(hi:0≤b∧b<(a.length:Int)):Does E 94 [.one (Wx 5 (a.map (Wj q0))),Wr b] [Wp (qj a b)]:=by exact N4 a b _ (Ol a b h hi)
noncomputable def uc (a:Zz):Option (Bool):=cond ((aA a).2) (if ab.sm ((aA a).1)then some (((bB ((aA a).1)).1).toList==a.toList)else none) (if ab.sm ((aA a).1)then some (false)else none)
theorem PQ (a:Zz):Ans (uc a) (fun r=>Does E 116 [Wt a] [Wp r]):=by
 unfold uc;apply V4<;>intro c
 ·apply V6;intro b;exact VZ (DP Tryz.f116 [.ret [(true,Wb .own ((aA a).1)),Wp true],.ret [Wq ((bB ((aA a).1)).1),Wp ((bB ((aA a).1)).2)]] (AD (vy a c)<|AD (AI ((aA a).1) b)<|AN))
 ·apply V6;intro b;exact VZ (DP Tryz.f116 [.ret [(true,Wb .own ((aA a).1)),Wp false],.ret [Wq ((bB ((aA a).1)).1),Wp ((bB ((aA a).1)).2)]] (AD (vy a c)<|AD (AI ((aA a).1) b)<|AN))
noncomputable def lN (s:Zz):Bool:=(aA s).2&&((bB (aA s).1).1.toList==s.toList)
theorem SP (s:Zz):uc s=some (lN s):=by unfold uc lN;simp only[LC s,W8];cases(aA s).2<;>rfl
theorem lK (a:Zz):Does E 116 [Wt a] [Wp (lN a)]:=by exact PQ a _ (SP a)
inductive FM where|ret (v2:Bool)|x0
def nX (q0:Kd)(a b:Zz)(c d:Int)(e:Bool)(f:List GTask)(v7:Int):US:=stL 74 [(1,.box () [tS a,tS b,tI c,tI d,tB e,Wx 5 (f.map (Wj q0))]),(7,Wr v7)]
def tz (q0:Kd)(a:Bool):US:=stL 74 [(2,Ws a)]
def vh (q0:Kd)(a b:Zz)(c d:Int)(e:Bool)(f:List GTask):US:=stL 74 [(1,.box () [tS a,tS b,tI c,tI d,tB e,Wx 5 (f.map (Wj q0))])]
abbrev zD:US→Exit→US→Prop:=Round E 64 (aq Tryz.f64 0)
def Qu {q0:Kd}(a b:Zz)(c d:Int)(e:Bool)(f:List GTask)(v7:Int):FM→Prop| .ret g=>Loops E 64 (aq Tryz.f64 0) (nX q0 a b c d e f v7) .ret (tz q0 g)| .x0=>Loops E 64 (aq Tryz.f64 0) (nX q0 a b c d e f v7) (.exit 0) (vh q0 a b c d e f)
noncomputable def l5 (a:List GTask):List GTask→Nat→Bool→Option FM|[],i,b=>some (.x0)|hd::rest,i,b=>if ab.sm a then if 0≤(i:Int)∧(i:Int)<(a.length:Int)then cond (qj a (i:Int)) (l5 a rest (i+1) b) (some (.ret false))else none else none
theorem Qt {q0:Kd}(c d:Zz)(e f:Int)(a:List GTask)(rest:List GTask):∀(i:Nat)(b:Bool),(a).drop i=rest→a.length≤9223372036854775807→Ans (l5 a rest i b) (Qu (q0:=q0) c d e f b a (i:Int)):=by
 induction rest with
 |nil =>intro i b g h;have hb:=aP g;unfold l5;exact VZ (V3 (show zD (nX q0 c d e f b a (i:Int)) (.exit 0) (vh q0 c d e f b a)from RP [Wu (a.length:Int),.b false] (ALn a (Wj q0)<|AC hb<|AN)))
 |cons hd rest o =>
  intro i b g h;have hb:=aI g;have p:=aJ g h;have j:=az g;have s:=aK g;unfold l5;apply V6;intro l;apply V6;intro m;apply V4<;>intro n
  ·exact(o (i+1) b j h).mono fun y q=>by have r:zD (nX q0 c d e f b a (i:Int)) .normal (nX q0 c d e f b a (inc (i:Int))):=RP [Wu (a.length:Int),.b true,rT] (ALn a (Wj q0)<|AC hb<|AV (ψ:=fun k=>E.C k 94 [.one (Wx 5 (a.map (Wj q0))),Wr (i:Int)]=some [Wp true]) (V7 (CQ a (i:Int) l m) (by rw[n]))<|AN);rw[p]at r;cases y<;>exact V2 r q
  ·exact VZ (V3 (show zD (nX q0 c d e f b a (i:Int)) .ret (tz q0 false)from RP [Wu (a.length:Int),.b true,rF] (ALn a (Wj q0)<|AC hb<|AV (ψ:=fun k=>E.C k 94 [.one (Wx 5 (a.map (Wj q0))),Wr (i:Int)]=some [Wp false]) (V7 (CQ a (i:Int) l m) (by rw[n]))<|AN)))
noncomputable def wq (a:GDag):Option (Bool):=
  cond ((aA a.f1).2)
   (if ab.sm ((aA a.f1).1)then if a.f0.size≤2000000 then cond (fp a.f0)
    (cond (!(((bB ((aA a.f1).1)).1).toList==a.f1.toList))
     (some (false))
     (cond (ak a.f3 0 68374079)
      (cond (ak a.f2 0 a.f3)
       (cond (ak (a.f5.length:Int) 1 4)
        (if a.f5.length≤9223372036854775807 then(l5 a.f5 a.f5 0 a.f4).bind fun y=>match y with
         | .ret b=>(some (b))
         | .x0=>(if ab.sm a.f5 then if df a.f5 then some (((cn a.f5).length:Int)==(a.f5.length:Int))else none else none)else none)
        (some (false)))
       (some (false)))
      (some (false))))
    (some (false))else none else none)
   (if ab.sm ((aA a.f1).1)then if a.f0.size≤2000000 then cond (fp a.f0)
    (some (false))
    (some (false))else none else none)
noncomputable abbrev ZN (x0:GDag):=(aA x0.f1).1
noncomputable abbrev ZP (x0:GDag):=(true,Wb .own (ZN x0))
noncomputable abbrev ZR (x0:GDag):=(bB (ZN x0)).1
noncomputable abbrev ZS (x0:GDag):=(bB (ZN x0)).2
abbrev ZV (x0:GDag):=am x0.f3 0 68374079
theorem Si {q0:Kd}(x0:GDag):Ans (wq x0) (fun r=>Does E 64 [.agg (Wc .far q0 x0)] [Wp r]):=by
 unfold wq;apply V4<;>intro f1
 ·apply V6;intro f2;apply V6;intro f3;apply V4<;>intro f4
  ·apply V4<;>intro a
   ·exact VZ (DP Tryz.f64 [.ret [(ZP x0),Wp true],.ret [Wq (ZR x0),Wp (ZS x0)],rT,.b true] (AD (gm x0.f1 f1)<|AD (gn (ZN x0) f2)<|AD (V9 (dy x0.f0 f3) f4)<|AC a<|AN))
   ·apply V4<;>intro b
    ·apply V4<;>intro e
     ·apply V4<;>intro g
      ·apply V6;intro h;apply V5;intro y f;replace f:=Qt (q0:=q0) x0.f0 x0.f1 x0.f2 x0.f3 x0.f5 x0.f5 0 x0.f4 rfl h y f;cases y with
       |ret c =>
        have d:=f
        (try rw[f1]at d);exact VZ (DP Tryz.f64 [.ret [(ZP x0),Wp true],.ret [Wq (ZR x0),Wp (ZS x0)],rT,.b false,rT,rT,Wu (x0.f5.length:Int),rT,.lp .ret (tz q0 c)] (AD (gm x0.f1 f1)<|AD (gn (ZN x0) f2)<|AD (V9 (dy x0.f0 f3) f4)<|AC a<|AD (V9 (ZV x0) b)<|AD (V9 (am x0.f2 0 x0.f3) e)<|ALn x0.f5 (Wj q0)<|AD (V9 (am (x0.f5.length:Int) 1 4) g)<|AL d<|AN))
       |x0 =>
        have d:=f;apply V6;intro j;apply V6;intro i
        (try rw[f1]at d);exact VZ (DP Tryz.f64 [.ret [(ZP x0),Wp true],.ret [Wq (ZR x0),Wp (ZS x0)],rT,.b false,rT,rT,Wu (x0.f5.length:Int),rT,.lp (.exit 0) (vh q0 x0.f0 x0.f1 x0.f2 x0.f3 x0.f4 x0.f5),.ret [(false,[Ww 1 ((cn x0.f5).map etI)])],Wu ((cn x0.f5).length:Int),Wu (x0.f5.length:Int)] (AD (gm x0.f1 f1)<|AD (gn (ZN x0) f2)<|AD (V9 (dy x0.f0 f3) f4)<|AC a<|AD (V9 (ZV x0) b)<|AD (V9 (am x0.f2 0 x0.f3) e)<|ALn x0.f5 (Wj q0)<|AD (V9 (am (x0.f5.length:Int) 1 4) g)<|AL d<|AV (ψ:=fun k=>E.C k 67 [.one (Wx 5 (x0.f5.map (Wj q0)))]=some [(false,[Ww 1 ((cn x0.f5).map etI)])]) (uF x0.f5 j i)<|ALn (cn x0.f5) etI<|ALn x0.f5 (Wj q0)<|AN))
      ·exact VZ (DP Tryz.f64 [.ret [(ZP x0),Wp true],.ret [Wq (ZR x0),Wp (ZS x0)],rT,.b false,rT,rT,Wu (x0.f5.length:Int),rF] (AD (gm x0.f1 f1)<|AD (gn (ZN x0) f2)<|AD (V9 (dy x0.f0 f3) f4)<|AC a<|AD (V9 (ZV x0) b)<|AD (V9 (am x0.f2 0 x0.f3) e)<|ALn x0.f5 (Wj q0)<|AD (V9 (am (x0.f5.length:Int) 1 4) g)<|AN))
     ·exact VZ (DP Tryz.f64 [.ret [(ZP x0),Wp true],.ret [Wq (ZR x0),Wp (ZS x0)],rT,.b false,rT,rF] (AD (gm x0.f1 f1)<|AD (gn (ZN x0) f2)<|AD (V9 (dy x0.f0 f3) f4)<|AC a<|AD (V9 (ZV x0) b)<|AD (V9 (am x0.f2 0 x0.f3) e)<|AN))
    ·exact VZ (DP Tryz.f64 [.ret [(ZP x0),Wp true],.ret [Wq (ZR x0),Wp (ZS x0)],rT,.b false,rF] (AD (gm x0.f1 f1)<|AD (gn (ZN x0) f2)<|AD (V9 (dy x0.f0 f3) f4)<|AC a<|AD (V9 (ZV x0) b)<|AN))
  ·exact VZ (DP Tryz.f64 [.ret [(ZP x0),Wp ((aA x0.f1).2)],.ret [Wq (ZR x0),Wp (ZS x0)],rF] (AD (sZ x0.f1)<|AD (gn (ZN x0) f2)<|AD (V9 (dy x0.f0 f3) f4)<|AN))
 ·apply V6;intro f5;apply V6;intro f6;apply V4<;>intro f7
  ·exact VZ (DP Tryz.f64 [.ret [(ZP x0),Wp false],.ret [Wq (ZR x0),Wp (ZS x0)],rT] (AD (gm x0.f1 f1)<|AD (gn (ZN x0) f5)<|AD (V9 (dy x0.f0 f6) f7)<|AN))
  ·exact VZ (DP Tryz.f64 [.ret [(ZP x0),Wp ((aA x0.f1).2)],.ret [Wq (ZR x0),Wp (ZS x0)],rF] (AD (sZ x0.f1)<|AD (gn (ZN x0) f5)<|AD (V9 (dy x0.f0 f6) f7)<|AN))
inductive E3 where|ret (v2:Bool)|x2
def nD (q0:Kd)(a b:Zz)(c d:Int)(e:Bool)(f g:List GTask)(h i:Int)(v59:List Zz)(j k:Int):US:=stL 78 [(1,.box () [tS a,tS b,tI c,tI d,tB e,Wx 5 (f.map (Wj q0))]),(40,.one (Wx 5 (g.map (Wj q0)))),(41,Wr h),(42,Wr i),(59,.one (Wx 1 (v59.map etS))),(60,Wr j),(61,Wr k)]
def s9 (q0:Kd)(a:Bool):US:=stL 78 [(2,Ws a)]
def uR (q0:Kd)(a b:Zz)(c d:Int)(e:Bool)(f g:List GTask)(h i:Int):US:=stL 78 [(1,.box () [tS a,tS b,tI c,tI d,tB e,Wx 5 (f.map (Wj q0))]),(40,.one (Wx 5 (g.map (Wj q0)))),(41,Wr h),(42,Wr i)]
abbrev y8:US→Exit→US→Prop:=Round E 100 (aq Tryz.f100 1)
def PK {q0:Kd}(a b:Zz)(c d:Int)(e:Bool)(f g:List GTask)(h i:Int)(v59:List Zz)(j k:Int):E3→Prop| .ret l=>Loops E 100 (aq Tryz.f100 1) (nD q0 a b c d e f g h i v59 j k) .ret (s9 q0 l)| .x2=>Loops E 100 (aq Tryz.f100 1) (nD q0 a b c d e f g h i v59 j k) (.exit 2) (uR q0 a b c d e f g h i)
noncomputable def lR (b c:Zz)(d e:Int)(f:List GTask):List Zz→Nat→Bool→Option E3|[],i,a=>some (.x2)|hd::rest,i,a=>if(GDag.mk b c d e a f).f5.length≤1050000 then cond (decide ((ag (GDag.mk b c d e a f) hd)<(0:Int))) (some (.ret false)) (lR b c d e f rest (i+1) a)else none
theorem PI {q0:Kd}(b c:Zz)(d e:Int)(f g:List GTask)(h j:Int)(v59:List Zz)(rest:List Zz):∀(i:Nat)(a:Bool),(v59).drop i=rest→v59.length≤9223372036854775807→Ans (lR b c d e f rest i a) (PK (q0:=q0) b c d e a f g h j v59 (v59.length:Int) (i:Int)):=by
 induction rest with
 |nil =>intro i a l m;have hb:=aP l;unfold lR;exact VZ (V3 (show y8 (nD q0 b c d e a f g h j v59 (v59.length:Int) (i:Int)) (.exit 2) (uR q0 b c d e a f g h j)from RP [.b false] (AC hb<|AN)))
 |cons hd rest s =>
  intro i a l m;have hb:=aI l;have t:=aJ l m;have n:=az l;have o:=aK l;unfold lR;apply V6;intro p;apply V4<;>intro q
  ·exact VZ (V3 (show y8 (nD q0 b c d e a f g h j v59 (v59.length:Int) (i:Int)) .ret (s9 q0 false)from RP [.b true,.row (etS hd),.ret [Wo (ag (ZO b c d e a f) hd)],.b true] (AC hb<|AR etS o<|AV (ψ:=fun k=>E.C k 53 [.agg (Wc .far q0 (ZO b c d e a f)),Wt hd]=some [Wo (ag (ZO b c d e a f) hd)]) (fx (ZO b c d e a f) hd p)<|AC q<|AN)))
  ·exact(s (i+1) a n m).mono fun y u=>by have r:y8 (nD q0 b c d e a f g h j v59 (v59.length:Int) (i:Int)) .normal (nD q0 b c d e a f g h j v59 (v59.length:Int) (inc (i:Int))):=RP [.b true,.row (etS hd),.ret [Wo (ag (ZO b c d e a f) hd)],.b false] (AC hb<|AR etS o<|AV (ψ:=fun k=>E.C k 53 [.agg (Wc .far q0 (ZO b c d e a f)),Wt hd]=some [Wo (ag (ZO b c d e a f) hd)]) (fx (ZO b c d e a f) hd p)<|AC q<|AN);rw[t]at r;cases y<;>exact V2 r u
inductive E2 where|ret (v2:Bool)|x0
def kz (q0:Kd)(a b:Zz)(c d:Int)(e:Bool)(f g:List GTask)(h i:Int):US:=stL 78 [(1,.box () [tS a,tS b,tI c,tI d,tB e,Wx 5 (f.map (Wj q0))]),(40,.one (Wx 5 (g.map (Wj q0)))),(41,Wr h),(42,Wr i)]
def mh (q0:Kd)(a:Bool):US:=stL 78 [(2,Ws a)]
def uQ (q0:Kd)(a b:Zz)(c d:Int)(e:Bool)(f:List GTask):US:=stL 78 [(1,.box () [tS a,tS b,tI c,tI d,tB e,Wx 5 (f.map (Wj q0))])]
abbrev qA:US→Exit→US→Prop:=Round E 100 (aq Tryz.f100 0)
def PJ {q0:Kd}(a b:Zz)(c d:Int)(e:Bool)(f g:List GTask)(h i:Int):E2→Prop| .ret j=>Loops E 100 (aq Tryz.f100 0) (kz q0 a b c d e f g h i) .ret (mh q0 j)| .x0=>Loops E 100 (aq Tryz.f100 0) (kz q0 a b c d e f g h i) (.exit 0) (uQ q0 a b c d e f)
noncomputable def lQ (b c:Zz)(d e:Int)(f:List GTask):List GTask→Nat→Bool→Option E2
 |[],i,a=>some (.x0)
 |hd::rest,i,a=>if ab.sm hd then cond (vq hd)
  (if(GDag.mk b c d e a f).f5.length≤1050000 then cond ((ag (GDag.mk b c d e a f) hd.f0) != (i:Int))
   (some (.ret false))
   (if hd.f4.length≤9223372036854775807 then(lR b c d e f hd.f4 0 a).bind fun y=>match y with
    | .ret g=>(some (.ret g))
    | .x2=>(lQ b c d e f rest (i+1) a)else none)else none)
  (some (.ret false))else none
theorem PH {q0:Kd}(b c:Zz)(d e:Int)(f g:List GTask)(rest:List GTask):∀(i:Nat)(a:Bool),(g).drop i=rest→g.length≤9223372036854775807→Ans (lQ b c d e f rest i a) (PJ (q0:=q0) b c d e a f g (g.length:Int) (i:Int)):=by
 induction rest with
 |nil =>intro i a j p;have hb:=aP j;unfold lQ;exact VZ (V3 (show qA (kz q0 b c d e a f g (g.length:Int) (i:Int)) (.exit 0) (uQ q0 b c d e a f)from RP [.b false] (AC hb<|AN)))
 |cons hd rest w =>
  intro i a j p;have hb:=aI j;have x:=aJ j p;have q:=az j;have m:=aK j;unfold lQ;apply V6;intro n;apply V4<;>intro o
  ·apply V6;intro s;apply V4<;>intro t
   ·exact VZ (V3 (show qA (kz q0 b c d e a f g (g.length:Int) (i:Int)) .ret (mh q0 false)from RP [.b true,.row ((Wj q0) hd),rT,.ret [Wo (ag (ZO b c d e a f) hd.f0)],.b true] (AC hb<|AR (Wj q0) m<|AD (V9 (tW hd n) o)<|AV (ψ:=fun k=>E.C k 53 [.agg (Wc .far q0 (ZO b c d e a f)),Wt hd.f0]=some [Wo (ag (ZO b c d e a f) hd.f0)]) (fx (ZO b c d e a f) hd.f0 s)<|AC t<|AN)))
   ·apply V6;intro u;apply V5;intro y l;replace l:=PI (q0:=q0) b c d e f g (g.length:Int) (i:Int) hd.f4 hd.f4 0 a rfl u y l;cases y with
    |ret h =>have v:=l;exact VZ (V3 (show qA (kz q0 b c d e a f g (g.length:Int) (i:Int)) .ret (mh q0 h)from RP [.b true,.row ((Wj q0) hd),rT,.ret [Wo (ag (ZO b c d e a f) hd.f0)],.b false,Wu (hd.f4.length:Int),.lp .ret (s9 q0 h)] (AC hb<|AR (Wj q0) m<|AD (V9 (tW hd n) o)<|AV (ψ:=fun k=>E.C k 53 [.agg (Wc .far q0 (ZO b c d e a f)),Wt hd.f0]=some [Wo (ag (ZO b c d e a f) hd.f0)]) (fx (ZO b c d e a f) hd.f0 s)<|AC t<|ALn hd.f4 etS<|AL v<|AN)))
    |x2 =>have v:=l;exact(w (i+1) a q p).mono fun y l=>by have r:qA (kz q0 b c d e a f g (g.length:Int) (i:Int)) .normal (kz q0 b c d e a f g (g.length:Int) (inc (i:Int))):=RP [.b true,.row ((Wj q0) hd),rT,.ret [Wo (ag (ZO b c d e a f) hd.f0)],.b false,Wu (hd.f4.length:Int),.lp (.exit 2) (uR q0 b c d e a f g (g.length:Int) (i:Int))] (AC hb<|AR (Wj q0) m<|AD (V9 (tW hd n) o)<|AV (ψ:=fun k=>E.C k 53 [.agg (Wc .far q0 (ZO b c d e a f)),Wt hd.f0]=some [Wo (ag (ZO b c d e a f) hd.f0)]) (fx (ZO b c d e a f) hd.f0 s)<|AC t<|ALn hd.f4 etS<|AL v<|AN);rw[x]at r;cases y<;>exact V2 r l
  ·exact VZ (V3 (show qA (kz q0 b c d e a f g (g.length:Int) (i:Int)) .ret (mh q0 false)from RP [.b true,.row ((Wj q0) hd),rF] (AC hb<|AR (Wj q0) m<|AD (V9 (tW hd n) o)<|AN)))
noncomputable def vS (a:GDag):Option (Bool):=
  if a.f0.size≤2000000 then cond (fp a.f0)
   (cond (lN a.f1)
    (cond (decide (a.f2<(0:Int)))
     (some (false))
     (cond (decide (a.f2>a.f3))
      (some (false))
      (cond (decide (a.f3>(68374079:Int)))
       (some (false))
       (cond (ak (a.f5.length:Int) 1 4)
        (if a.f5.length≤9223372036854775807 then(lQ a.f0 a.f1 a.f2 a.f3 a.f5 a.f5 0 a.f4).bind fun y=>match y with
         | .ret b=>(some (b))
         | .x0=>(if ab.sm a then if df a.f5 then some (((cR a).length:Int)==(a.f5.length:Int))else none else none)else none)
        (some (false))))))
    (some (false)))
   (some (false))else none
theorem Ry {q0:Kd}(x0:GDag):Ans (vS x0) (fun r=>Does E 100 [.agg (Wc .far q0 x0)] [Wp r]):=by
 unfold vS;apply V6;intro a;apply V4<;>intro b
 ·apply V4<;>intro c
  ·apply V4<;>intro d
   ·exact VZ (DP Tryz.f100 [rT,rT,.b true] (AD (V9 (dX x0.f0 a) b)<|AD (V9 (lK x0.f1) c)<|AC d<|AN))
   ·apply V4<;>intro e
    ·exact VZ (DP Tryz.f100 [rT,rT,.b false,.b true] (AD (V9 (dX x0.f0 a) b)<|AD (V9 (lK x0.f1) c)<|AC d<|AC e<|AN))
    ·apply V4<;>intro g
     ·exact VZ (DP Tryz.f100 [rT,rT,.b false,.b false,.b true] (AD (V9 (dX x0.f0 a) b)<|AD (V9 (lK x0.f1) c)<|AC d<|AC e<|AC g<|AN))
     ·apply V4<;>intro i
      ·apply V6;intro j;apply V5;intro y h;replace h:=PH (q0:=q0) x0.f0 x0.f1 x0.f2 x0.f3 x0.f5 x0.f5 x0.f5 0 x0.f4 rfl j y h;cases y with
       |ret f =>have l:=h;exact VZ (DP Tryz.f100 [rT,rT,.b false,.b false,.b false,Wu (x0.f5.length:Int),rT,Wu (x0.f5.length:Int),.lp .ret (mh q0 f)] (AD (V9 (dX x0.f0 a) b)<|AD (V9 (lK x0.f1) c)<|AC d<|AC e<|AC g<|ALn x0.f5 (Wj q0)<|AD (V9 (aG (x0.f5.length:Int) 1 4) i)<|ALn x0.f5 (Wj q0)<|AL l<|AN))
       |x0 =>have l:=h;apply V6;intro m;apply V6;intro n;exact VZ (DP Tryz.f100 [rT,rT,.b false,.b false,.b false,Wu (x0.f5.length:Int),rT,Wu (x0.f5.length:Int),.lp (.exit 0) (uQ q0 x0.f0 x0.f1 x0.f2 x0.f3 x0.f4 x0.f5),.ret [(false,[Ww 1 ((cR x0).map etI)])],Wu ((cR x0).length:Int),Wu (x0.f5.length:Int)] (AD (V9 (dX x0.f0 a) b)<|AD (V9 (lK x0.f1) c)<|AC d<|AC e<|AC g<|ALn x0.f5 (Wj q0)<|AD (V9 (aG (x0.f5.length:Int) 1 4) i)<|ALn x0.f5 (Wj q0)<|AL l<|AV (ψ:=fun k=>E.C k 103 [.agg (Wc .far q0 x0)]=some [(false,[Ww 1 ((cR x0).map etI)])]) (wF x0 m n)<|ALn (cR x0) etI<|ALn x0.f5 (Wj q0)<|AN))
      ·exact VZ (DP Tryz.f100 [rT,rT,.b false,.b false,.b false,Wu (x0.f5.length:Int),rF] (AD (V9 (dX x0.f0 a) b)<|AD (V9 (lK x0.f1) c)<|AC d<|AC e<|AC g<|ALn x0.f5 (Wj q0)<|AD (V9 (aG (x0.f5.length:Int) 1 4) i)<|AN))
  ·exact VZ (DP Tryz.f100 [rT,rF] (AD (V9 (dX x0.f0 a) b)<|AD (V9 (lK x0.f1) c)<|AN))
 ·exact VZ (DP Tryz.f100 [rF] (AD (V9 (dX x0.f0 a) b)<|AN))
noncomputable def fg (ts:List GTask):List GTask→Nat→Bool|[],_=>true|t::r,i=>kV ts (i:Int) t&&fg ts r (i+1)
noncomputable def aY (d:GDag):Bool :=fp d.f0&&(lN d.f1&&(ak d.f3 0 68374079&&(ak d.f2 0 d.f3&&(ak (d.f5.length:Int) 1 4&&(fg d.f5 d.f5 0&&((cn d.f5).length:Int)==(d.f5.length:Int))))))
theorem zx (ts:List GTask):∀(rest:List GTask)(i:Nat),ts.drop i=rest→fg ts rest i=true→∀(k:Nat)(t:GTask),i≤k→ts[k]?=some t→kV ts (k:Int) t=true
 |[],i,h,_,k,t,c,a=>by have:ts.length≤i:=List.drop_eq_nil_iff.1 h;rw[WF (by omega)]at a;cases a
 |x::rest,i,h,b,k,t,c,a=>by
  unfold fg at b;rw[W0]at b;by_cases e:k=i
  ·subst e;have:ts[k]?=some x:=by rw[←YE,h];rfl
   rw[this]at a;cases a;exact b.1
  ·exact zx ts rest (i+1) (az h) b.2 k t (by omega) a
theorem y7 {ts:List GTask}(a:ts.length≤4)(h:fg ts ts 0=true):df ts:=by refine⟨a,fun i t b=>?_⟩;have:=zx ts ts 0 rfl h i t (YM _) b;unfold kV at this;simp only[W0,Yc]at this;exact this.2.1
theorem Q7 (ts:List GTask)(hs:ab.sm ts):∀(rest:List GTask)(i:Nat)(z:Bool),ts.drop i=rest→l5 ts rest i z=some (cond (fg ts rest i) .x0 (.ret false))
 |[],i,z,_=>rfl
 |x::rest,i,z,h=>by
  have hi:=oP h;have a:=aK h;have e:qj ts (i:Int)=kV ts (i:Int) x:=by unfold qj;rw[a]
  unfold l5 fg;rw[Q7 ts hs rest (i+1) z (az h),Wz hs,Wz (by omega),e];cases kV ts (i:Int) x<;>rfl
theorem UP (d:GDag)(h:ab.sm d):wq d=some (aY d):=by
 have hs:ab.sm d.f5:=h.2.2;have a:d.f0.size≤2000000:=by have:d.f0.size≤1050000:=h.1;omega
 unfold wq aY lN;simp only[a,LC,W8];cases(aA d.f1).2 with
 |false=>cases fp d.f0<;>rfl
 |true =>
  rw[WK];cases fp d.f0 with
  |false=>rfl
  |true =>
   rw[WK,Xa,Xa];cases(bB (aA d.f1).1).1.toList==d.f1.toList with
   |false=>rfl
   |true =>
    rw[Xq,WO,Xa];cases ak d.f3 0 68374079 with
    |false=>rfl
    |true =>
     rw[WK,Xa];cases ak d.f2 0 d.f3 with
     |false=>rfl
     |true =>
      rw[WK,Xa];cases q:ak (d.f5.length:Int) 1 4 with
      |false=>rfl
      |true =>
       have b:d.f5.length≤4:=by unfold ak at q;simp at q;omega
       rw[WK,Xa,Wz (by omega),Q7 d.f5 hs d.f5 0 d.f4 rfl];cases w:fg d.f5 d.f5 0 with
       |false=>rfl
       |true =>rw[WK,Wy,Xa];simp only;rw[Wz hs,Wz (y7 b w)]
theorem Q6 (a b:Zz)(c e:Int)(ts:List GTask)(d:ts.length≤1050000):∀(l:List Zz)(i:Nat)(z:Bool),lR a b c e ts l i z=some (cond (l.all fun n=>decide (0≤ay ts n)) .x2 (.ret false))
 |[],i,z=>rfl
 |n::l,i,z=>by
  unfold lR;rw[Wz (show(GDag.mk a b c e z ts).f5.length≤1050000 from d),Q6 a b c e ts d l (i+1) z,X9];show cond (decide (ay ts n<0)) _ _=_;by_cases w:ay ts n<0
  ·rw[WJ w,WH (by omega:¬ 0≤ay ts n)];rfl
  ·rw[WH w,WJ (by omega:0≤ay ts n)];rfl
theorem Q5 (a b:Zz)(c e:Int)(ts:List GTask)(hs:ab.sm ts)(d:ts.length≤4):∀(l:List GTask)(i:Nat)(z:Bool),(∀y∈l,ab.sm y)→lQ a b c e ts l i z=some (cond (fg ts l i) .x0 (.ret false))
 |[],i,z,_=>rfl
 |t::l,i,z,f=>by have g:=f t (by simp);have hf:t.f4.length≤1050000:=g.2.2.1;unfold lQ fg;rw[Wz g,Wz (show(GDag.mk a b c e z ts).f5.length≤1050000 from hs.1),Wz (by omega),Q6 a b c e ts hs.1,Q5 a b c e ts hs d l (i+1) z (fun y h=>f y (by simp[h])),QM ts d];have j:(ag (GDag.mk a b c e z ts) t.f0 != (i:Int))= !(ay ts t.f0==(i:Int)):=rfl;rw[j];cases vq t<;>cases ay ts t.f0==(i:Int)<;>cases(t.f4.all fun n=>decide (0≤ay ts n))<;>cases fg ts l (i+1)<;>rfl
theorem UO (d:GDag)(h:ab.sm d):vS d=some (aY d):=by
 have hs:ab.sm d.f5:=h.2.2;have e:d.f0.size≤2000000:=by have:d.f0.size≤1050000:=h.1;omega
 unfold vS aY;rw[Wz e];cases fp d.f0 with
 |false=>rfl
 |true =>
  rw[WK,Xa];cases lN d.f1 with
  |false=>rfl
  |true =>
   rw[WK,Xa];by_cases w0:d.f2<0
   ·have:ak d.f2 0 d.f3=false:=by unfold ak;rw[WH (by omega)];rfl
    rw[WJ w0,this,YP,Yt];rfl
   ·rw[WH w0,WO];by_cases a:d.f2>d.f3
    ·have:ak d.f2 0 d.f3=false:=by unfold ak;rw[WH (by omega:¬d.f2≤d.f3),Yt]
     rw[WJ a,this,YP,Yt];rfl
    ·rw[WH a,WO];have f:ak d.f2 0 d.f3=true:=by unfold ak;rw[WJ (by omega),WJ (by omega)];rfl
     by_cases b:d.f3>68374079
     ·have:ak d.f3 0 68374079=false:=by unfold ak;rw[WH (by omega:¬d.f3≤68374079),Yt]
      rw[WJ b,this,YP];rfl
     ·have g:ak d.f3 0 68374079=true:=by unfold ak;rw[WJ (by omega),WJ (by omega)];rfl
      rw[WH b,WO,f,g,Xa,Xa];cases q:ak (d.f5.length:Int) 1 4 with
      |false=>rfl
      |true =>
       have c:d.f5.length≤4:=by unfold ak at q;simp at q;omega
       rw[WK,Xa,Wz (by omega),Q5 d.f0 d.f1 d.f2 d.f3 d.f5 hs c d.f5 0 d.f4 hs.2];cases w:fg d.f5 d.f5 0 with
       |false=>rfl
       |true =>rw[WK,Wy,Xa];simp only;rw[Wz h,Wz (y7 c w)];rfl
theorem lD {q0:Kd}(a:GDag)(h:ab.sm a):Does E 64 [.agg (Wc .far q0 a)] [Wp (aY a)]:=by exact Si a _ (UP a h)
theorem HO {q0:Kd}(a:GDag)(h:ab.sm a):Does E 100 [.agg (Wc .far q0 a)] [Wp (aY a)]:=by exact Ry a _ (UO a h)
end
end Go.Proofs.YtlgddjncnedkgaaGreatDoor.Am
