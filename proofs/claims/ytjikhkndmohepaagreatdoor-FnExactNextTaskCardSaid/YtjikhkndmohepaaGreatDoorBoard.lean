/- Right boards. -/
import Derived.Test.YtjikhkndmohepaaGreatDoorRunb
import Derived.Test.YtjikhkndmohepaaGreatDoorRund
namespace Go.Proofs.YtjikhkndmohepaaGreatDoor.Am
open Go
set_option linter.unusedVariables false
set_option linter.unusedSimpArgs false
section
open Go.Proofs Classical
set_option maxRecDepth 100000
noncomputable def ez (d:List GSession)(a:List GPlan)(c:List GRun)(e b:Int):List GRun→Nat→(List Int)→Option u4
 |[],i,v3=>some (.x0)
 |hd::rest,i,v3=>if ab.sm (GBoard.mk d a c e b)then cond (decide ((ap (GBoard.mk d a c e b) hd.f0)<(0:Int)))
  (some (.ret false))
  (cond (decide ((i:Int)>(0:Int)))
   ((ak c (IntKind.wrap .i64 ((i:Int)-(1:Int)))).bind fun g1=>cond (ahead g1 hd)
    ((ak a (ap (GBoard.mk d a c e b) hd.f0)).bind fun h=>if ab.sm h.f0 then if aH h.f0=true then cond (bC h.f0 hd)
     (cond (decide (hd.f1.f0<h.f3))
      (some (.ret false))
      (if hd.f3.length≤9223372036854775807 then(eA b hd.f3 0 v3).bind fun y=>match y with
       | .ret f=>(some (.ret f))
       | .x2 g=>(ez d a c e b rest (i+1) g)else none))
     (some (.ret false))else none else none)
    (some (.ret false)))
   ((ak a (ap (GBoard.mk d a c e b) hd.f0)).bind fun g1=>if ab.sm g1.f0 then if aH g1.f0=true then cond (bC g1.f0 hd)
    (cond (decide (hd.f1.f0<g1.f3))
     (some (.ret false))
     (if hd.f3.length≤9223372036854775807 then(eA b hd.f3 0 v3).bind fun y=>match y with
      | .ret f=>(some (.ret f))
      | .x2 g=>(ez d a c e b rest (i+1) g)else none))
    (some (.ret false))else none else none))else none
theorem Lq {q0:Kd}(b:List GSession)(c:List GPlan)(a:List GRun)(d e:Int)(rest:List GRun):∀(i:Nat)(v3:List Int),(a).drop i=rest→a.length≤9223372036854775807→Ans (ez b c a d e rest i v3) (Lr (q0:=q0) b c a d e v3 (i:Int)):=by
 induction rest with
 |nil =>intro i v3 x A;have hb:=aK x;unfold ez;exact Vz (VB (show bw (aY q0 b c a d e v3 (i:Int)) (.exit 0) (nI q0 b c a d e)from EV (q0:=q0) b c a d e v3 (i:Int) hb) (by intro h;cases h))
 |cons hd rest F =>
  intro i v3 x A;have hb:=aF x;have G:=aG x A;have z:=au x;have l:=aE x;unfold ez;apply VE;intro m;apply VC<;>intro n
  ·exact Vz (VB (show bw (aY q0 b c a d e v3 (i:Int)) .ret (bp q0 false)from Gc (q0:=q0) b c a d e v3 (i:Int) hd hb l m n) (by intro h;cases h))
  ·apply VC<;>intro q
   ·apply VD;intro g1 o;apply VC<;>intro p
    ·apply VD;intro B s;apply VE;intro t;apply VE;intro u;apply VC<;>intro g
     ·apply VC<;>intro v
      ·exact Vz (VB (show bw (aY q0 b c a d e v3 (i:Int)) .ret (bp q0 false)from Gd (q0:=q0) b c a d e v3 (i:Int) hd g1 B hb l m n q o p s t u g v) (by intro h;cases h))
      ·apply VE;intro C;apply VD;intro y k;replace k:=Bi (q0:=q0) b c a d e (i:Int) hd.f0 hd.f1.f0 hd.f1.f1 hd.f2 hd.f3 hd.f3 0 v3 rfl C y k;cases y with
       |ret j =>have w:=k;exact Vz (VB (show bw (aY q0 b c a d e v3 (i:Int)) .ret (bp q0 j)from Ge (q0:=q0) b c a d e v3 (i:Int) hd g1 B j hb l m n q o p s t u g v w) (by intro h;cases h))
       |x2 f =>have w:=k;exact(F (i+1) f z A).mono fun y k=>by have r:bw (aY q0 b c a d e v3 (i:Int)) .normal (aY q0 b c a d e f (inc (i:Int))):=Gf (q0:=q0) b c a d e v3 (i:Int) hd g1 B f hb l m n q o p s t u g v w;rw[G]at r;cases y<;>exact VA r k
     ·exact Vz (VB (show bw (aY q0 b c a d e v3 (i:Int)) .ret (bp q0 false)from Gg (q0:=q0) b c a d e v3 (i:Int) hd g1 B hb l m n q o p s t u g) (by intro h;cases h))
    ·exact Vz (VB (show bw (aY q0 b c a d e v3 (i:Int)) .ret (bp q0 false)from Gh (q0:=q0) b c a d e v3 (i:Int) hd g1 hb l m n q o p) (by intro h;cases h))
   ·apply VD;intro g1 o;apply VE;intro p;apply VE;intro s;apply VC<;>intro t
    ·apply VC<;>intro u
     ·exact Vz (VB (show bw (aY q0 b c a d e v3 (i:Int)) .ret (bp q0 false)from Gi (q0:=q0) b c a d e v3 (i:Int) hd g1 hb l m n q o p s t u) (by intro h;cases h))
     ·apply VE;intro D;apply VD;intro y k;replace k:=Bi (q0:=q0) b c a d e (i:Int) hd.f0 hd.f1.f0 hd.f1.f1 hd.f2 hd.f3 hd.f3 0 v3 rfl D y k;cases y with
      |ret j =>have g:=k;exact Vz (VB (show bw (aY q0 b c a d e v3 (i:Int)) .ret (bp q0 j)from Gj (q0:=q0) b c a d e v3 (i:Int) hd g1 j hb l m n q o p s t u g) (by intro h;cases h))
      |x2 f =>have g:=k;exact(F (i+1) f z A).mono fun y k=>by have r:bw (aY q0 b c a d e v3 (i:Int)) .normal (aY q0 b c a d e f (inc (i:Int))):=Gk (q0:=q0) b c a d e v3 (i:Int) hd g1 f hb l m n q o p s t u g;rw[G]at r;cases y<;>exact VA r k
    ·exact Vz (VB (show bw (aY q0 b c a d e v3 (i:Int)) .ret (bp q0 false)from Gl (q0:=q0) b c a d e v3 (i:Int) hd g1 hb l m n q o p s t) (by intro h;cases h))
noncomputable def sf (a:GBoard):Option (Bool):=
  if a.f2.length≤9223372036854775807 then(ez a.f0 a.f1 a.f2 a.f3 a.f4 a.f2 0 ([])).bind fun y=>match y with
   | .ret b=>(some (b))
   | .x0=>(some (decide ((a.f2.length:Int)≤(8:Int))))else none
theorem Nw {q0:Kd}(x0:GBoard):Ans (sf x0) (fun r=>Does E 28 [.agg (VI .far q0 x0)] [VY r]):=by
 unfold sf;apply VE;intro c;apply VD;intro y b;replace b:=Lq (q0:=q0) x0.f0 x0.f1 x0.f2 x0.f3 x0.f4 x0.f2 0 ([]) rfl c y b;cases y with
 |ret a =>have d:=b;exact Vz (DP Tryz.f28 [.lp .ret (bp q0 a)] (AL d<|AN))
 |x0 =>have d:=b;exact Vz (DP Tryz.f28 [.lp (.exit 0) (nI q0 x0.f0 x0.f1 x0.f2 x0.f3 x0.f4),V5 (x0.f2.length:Int)] (AL d<|ALn x0.f2 (VM q0)<|AN))
inductive Cc where|ret (v2:Bool)|x0
def fc (q0:Kd)(a:List GSession)(b:List GPlan)(c:List GRun)(d e:Int)(v7:List GRun)(v8 v9:Int):US:=stL 61 [(1,.box () [V8 3 (a.map VN),V8 9 (b.map (VL q0 q0)),V8 5 (c.map (VM q0)),tI d,tI e]),(7,.one (V8 5 (v7.map (VM q0)))),(8,V2 v8),(9,V2 v9)]
def jl (q0:Kd)(a:Bool):US:=stL 61 [(2,V3 a)]
def sS (q0:Kd)(a:List GSession)(b:List GPlan)(c:List GRun)(d e:Int):US:=stL 61 [(1,.box () [V8 3 (a.map VN),V8 9 (b.map (VL q0 q0)),V8 5 (c.map (VM q0)),tI d,tI e])]
abbrev ku:US→Exit→US→Prop:=Round E 41 (an Tryz.f41 0)
def Mz {q0:Kd}(a:List GSession)(b:List GPlan)(c:List GRun)(d e:Int)(v7:List GRun)(v8 v9:Int):Cc→Prop| .ret f=>Loops E 41 (an Tryz.f41 0) (fc q0 a b c d e v7 v8 v9) .ret (jl q0 f)| .x0=>Loops E 41 (an Tryz.f41 0) (fc q0 a b c d e v7 v8 v9) (.exit 0) (sS q0 a b c d e)
noncomputable def iZ (c:List GSession)(a:List GPlan)(b:List GRun)(d e:Int):List GRun→Nat→Option Cc|[],i=>some (.x0)|hd::rest,i=>if ab.sm (GBoard.mk c a b d e)then cond (decide ((ap (GBoard.mk c a b d e) hd.f0)<(0:Int))) (some (.ret false)) ((ak a (ap (GBoard.mk c a b d e) hd.f0)).bind fun g1=>if ab.sm g1.f0 then if aH g1.f0=true then cond (bC g1.f0 hd) (cond (decide (hd.f1.f0<g1.f3)) (some (.ret false)) (cond (decide ((i:Int)>(0:Int))) ((ak b (IntKind.wrap .i64 ((i:Int)-(1:Int)))).bind fun f=>cond (decide ((ud f hd)≥(0:Int))) (some (.ret false)) (iZ c a b d e rest (i+1))) (iZ c a b d e rest (i+1)))) (some (.ret false))else none else none)else none
theorem My {q0:Kd}(a:List GSession)(b:List GPlan)(c:List GRun)(d e:Int)(v7:List GRun)(rest:List GRun):∀(i:Nat) ,(v7).drop i=rest→v7.length≤9223372036854775807→Ans (iZ a b c d e rest i) (Mz (q0:=q0) a b c d e v7 (v7.length:Int) (i:Int)):=by
 induction rest with
 |nil =>intro i g v;have hb:=aK g;unfold iZ;exact Vz (VB (show ku (fc q0 a b c d e v7 (v7.length:Int) (i:Int)) (.exit 0) (sS q0 a b c d e)from RP [.b false] (AC hb<|AN)) (by intro h;cases h))
 |cons hd rest A =>
  intro i g v;have hb:=aF g;have B:=aG g v;have o:=au g;have j:=aE g;unfold iZ;apply VE;intro l;apply VC<;>intro m
  ·exact Vz (VB (show ku (fc q0 a b c d e v7 (v7.length:Int) (i:Int)) .ret (jl q0 false)from RP [.b true,.row ((VM q0) hd),.ret [VX (ap (GBoard.mk a b c d e) hd.f0)],.b true] (AC hb<|AR (VM q0) j<|AV (ψ:=fun k=>E.C k 47 [.agg (VI .far q0 (GBoard.mk a b c d e)),V4 hd.f0]=some [VX (ap (GBoard.mk a b c d e) hd.f0)]) (dV (GBoard.mk a b c d e) hd.f0 l)<|AC m<|AN)) (by intro h;cases h))
  ·apply VD;intro g1 f;apply VE;intro p;apply VE;intro q;apply VC<;>intro s
   ·apply VC<;>intro w
    ·exact Vz (VB (show ku (fc q0 a b c d e v7 (v7.length:Int) (i:Int)) .ret (jl q0 false)from RP [.b true,.row ((VM q0) hd),.ret [VX (ap (GBoard.mk a b c d e) hd.f0)],.b false,.row ((VL q0 q0) g1),rT,.row ((VL q0 q0) g1),.b true] (AC hb<|AR (VM q0) j<|AV (ψ:=fun k=>E.C k 47 [.agg (VI .far q0 (GBoard.mk a b c d e)),V4 hd.f0]=some [VX (ap (GBoard.mk a b c d e) hd.f0)]) (dV (GBoard.mk a b c d e) hd.f0 l)<|AC m<|AR (VL q0 q0) f<|AV (ψ:=fun k=>E.C k 69 [.agg (VK .far q0 g1.f0),.agg (VM .far hd)]=some [VY true]) (VF (pk g1.f0 hd p q) (by rw[s]))<|AR (VL q0 q0) f<|AC w<|AN)) (by intro h;cases h))
    ·apply VC<;>intro x
     ·apply VD;intro n t;apply VC<;>intro u
      ·exact Vz (VB (show ku (fc q0 a b c d e v7 (v7.length:Int) (i:Int)) .ret (jl q0 false)from RP [.b true,.row ((VM q0) hd),.ret [VX (ap (GBoard.mk a b c d e) hd.f0)],.b false,.row ((VL q0 q0) g1),rT,.row ((VL q0 q0) g1),.b false,.b true,.row ((VM q0) n),.ret [VX (ud n hd)],.b true] (AC hb<|AR (VM q0) j<|AV (ψ:=fun k=>E.C k 47 [.agg (VI .far q0 (GBoard.mk a b c d e)),V4 hd.f0]=some [VX (ap (GBoard.mk a b c d e) hd.f0)]) (dV (GBoard.mk a b c d e) hd.f0 l)<|AC m<|AR (VL q0 q0) f<|AV (ψ:=fun k=>E.C k 69 [.agg (VK .far q0 g1.f0),.agg (VM .far hd)]=some [VY true]) (VF (pk g1.f0 hd p q) (by rw[s]))<|AR (VL q0 q0) f<|AC w<|AC x<|AR (VM q0) t<|AD (vi n hd)<|AC u<|AN)) (by intro h;cases h))
      ·exact(A (i+1) o v).mono fun y z=>by have r:ku (fc q0 a b c d e v7 (v7.length:Int) (i:Int)) .normal (fc q0 a b c d e v7 (v7.length:Int) (inc (i:Int))):=RP [.b true,.row ((VM q0) hd),.ret [VX (ap (GBoard.mk a b c d e) hd.f0)],.b false,.row ((VL q0 q0) g1),rT,.row ((VL q0 q0) g1),.b false,.b true,.row ((VM q0) n),.ret [VX (ud n hd)],.b false] (AC hb<|AR (VM q0) j<|AV (ψ:=fun k=>E.C k 47 [.agg (VI .far q0 (GBoard.mk a b c d e)),V4 hd.f0]=some [VX (ap (GBoard.mk a b c d e) hd.f0)]) (dV (GBoard.mk a b c d e) hd.f0 l)<|AC m<|AR (VL q0 q0) f<|AV (ψ:=fun k=>E.C k 69 [.agg (VK .far q0 g1.f0),.agg (VM .far hd)]=some [VY true]) (VF (pk g1.f0 hd p q) (by rw[s]))<|AR (VL q0 q0) f<|AC w<|AC x<|AR (VM q0) t<|AD (vi n hd)<|AC u<|AN);rw[B]at r;cases y<;>exact VA r z
     ·exact(A (i+1) o v).mono fun y z=>by have r:ku (fc q0 a b c d e v7 (v7.length:Int) (i:Int)) .normal (fc q0 a b c d e v7 (v7.length:Int) (inc (i:Int))):=RP [.b true,.row ((VM q0) hd),.ret [VX (ap (GBoard.mk a b c d e) hd.f0)],.b false,.row ((VL q0 q0) g1),rT,.row ((VL q0 q0) g1),.b false,.b false] (AC hb<|AR (VM q0) j<|AV (ψ:=fun k=>E.C k 47 [.agg (VI .far q0 (GBoard.mk a b c d e)),V4 hd.f0]=some [VX (ap (GBoard.mk a b c d e) hd.f0)]) (dV (GBoard.mk a b c d e) hd.f0 l)<|AC m<|AR (VL q0 q0) f<|AV (ψ:=fun k=>E.C k 69 [.agg (VK .far q0 g1.f0),.agg (VM .far hd)]=some [VY true]) (VF (pk g1.f0 hd p q) (by rw[s]))<|AR (VL q0 q0) f<|AC w<|AC x<|AN);rw[B]at r;cases y<;>exact VA r z
   ·exact Vz (VB (show ku (fc q0 a b c d e v7 (v7.length:Int) (i:Int)) .ret (jl q0 false)from RP [.b true,.row ((VM q0) hd),.ret [VX (ap (GBoard.mk a b c d e) hd.f0)],.b false,.row ((VL q0 q0) g1),rF] (AC hb<|AR (VM q0) j<|AV (ψ:=fun k=>E.C k 47 [.agg (VI .far q0 (GBoard.mk a b c d e)),V4 hd.f0]=some [VX (ap (GBoard.mk a b c d e) hd.f0)]) (dV (GBoard.mk a b c d e) hd.f0 l)<|AC m<|AR (VL q0 q0) f<|AV (ψ:=fun k=>E.C k 69 [.agg (VK .far q0 g1.f0),.agg (VM .far hd)]=some [VY false]) (VF (pk g1.f0 hd p q) (by rw[s]))<|AN)) (by intro h;cases h))
noncomputable def tM (a:GBoard):Option (Bool):=
  if a.f2.length≤9223372036854775807 then(iZ a.f0 a.f1 a.f2 a.f3 a.f4 a.f2 0).bind fun y=>match y with
   | .ret b=>(some (b))
   | .x0=>(some (decide ((a.f2.length:Int)≤(8:Int))))else none
theorem Pb {q0:Kd}(x0:GBoard):Ans (tM x0) (fun r=>Does E 41 [.agg (VI .far q0 x0)] [VY r]):=by
 unfold tM;apply VE;intro c;apply VD;intro y b;replace b:=My (q0:=q0) x0.f0 x0.f1 x0.f2 x0.f3 x0.f4 x0.f2 x0.f2 0 rfl c y b;cases y with
 |ret a =>have d:=b;exact Vz (DP Tryz.f41 [V5 (x0.f2.length:Int),.lp .ret (jl q0 a)] (ALn x0.f2 (VM q0)<|AL d<|AN))
 |x0 =>have d:=b;exact Vz (DP Tryz.f41 [V5 (x0.f2.length:Int),.lp (.exit 0) (sS q0 x0.f0 x0.f1 x0.f2 x0.f3 x0.f4),V5 (x0.f2.length:Int)] (ALn x0.f2 (VM q0)<|AL d<|ALn x0.f2 (VM q0)<|AN))
noncomputable def xn (b:GBoard)(x:GRun):Bool:=match ak b.f1 (ap b x.f0)with
 |some p=>bC p.f0 x && !decide (x.f1.f0<p.f3)
 |none=>false
noncomputable def gd (b:GBoard):Option GRun→List GRun→Bool
 |_,[]=>true
 |p,x::l=>xn b x&&((match p with|some y=>ahead y x|none=>true)&&gd b (some x) l)
noncomputable def bP (b:GBoard):Bool:=gd b none b.f2&&decide ((b.f2.length:Int)≤8)
def dr (l:List GState):List Int:=(l.filter fun x=>x.f0==1).map fun x=>x.f2
def cD (l:List GRun):List Int:=l.flatMap fun r=>dr r.f3
def dP (t:Int):List Int→List Int→Bool|_,[]=>true|v,x::l => !decide (x>t)&&(!ck v x&&dP t (v++[x]) l)
noncomputable def xq (b:GBoard):Bool:=bP b&&dP b.f4 [] (cD b.f2)
theorem xx (t:Int):∀(a:List Int)(v c:List Int),dP t v (a++c)=(dP t v a&&dP t (v++a) c)
 |[],v,c=>by rw[WG];rfl
 |x::a,v,c=>by
  have e:∀l,dP t v (x::l)=(!decide (x>t)&&(!ck v x&&dP t (v++[x]) l)):=fun _=>rfl
  rw[Ym,e,e,xx t a,XM,XF];cases decide (x>t)<;>cases ck v x<;>rfl
theorem rW {b:GBoard}(hb:ab.sm b)(c:a6 b.f1=true){p:GPlan}(h:p∈b.f1):ab.sm p.f0∧aH p.f0=true:=by
 refine⟨hb.2.1.2 p h,?_⟩;unfold a6 at c;rw[Ww]at c;have d:∀(l:List GPlan)(q:Option GPlan),gw q l=true→∀y∈l,aH y.f0=true:=by
  intro l;induction l with
  |nil=>intro q _ y hy;cases hy
  |cons x l e =>
   intro q a y hy;unfold gw KO at a;simp only[Ww]at a;rcases WE.1 hy with rfl|hy
   ·exact a.1.1
   ·exact e _ a.2.2 y hy
 exact d _ _ c.1 p h
theorem A4 {d:GDag}{r:GRun}:∀(l:List GState)(i:Nat),gS d r l i=true→∀k,i≤k→k<i+l.length→mc d r (k:Int)=true
 |[],i,_,k,b,a=>by simp at a;omega
 |x::l,i,h,k,b,a=>by
  unfold gS at h;rw[Ww]at h;rcases Nat.eq_or_lt_of_le b with rfl|q
  ·exact h.1
  ·exact A4 l (i+1) h.2 k (by omega) (by simp at a;omega)
theorem Cr {d:GDag}{r:GRun}(h:bC d r=true)(hd:aH d=true):r.f3.length≤4∧∀x∈r.f3,decide (x.f2>0)=(x.f0==1):=by
 have g:=uR h;have i:=(mE hd).1;refine⟨by omega,fun x b=>?_⟩;unfold bC at h;simp only[Ww]at h;obtain⟨k,c,rfl⟩:=YK b;have a:=A4 _ 0 h.2.2.2.2 k (by omega) (by omega);unfold mc at a;have e:ak r.f3 (k:Int)=some r.f3[k]:=by rw[cp];exact Wg c
 obtain⟨t,f,_⟩:=cA (l:=d.f5) (k:=(k:Int)) (by omega);rw[e,f]at a;replace a:Gu r.f3[k] (inc t.f2) (aN d r (k:Int)).1 (ct d r (k:Int)).2=true:=a;unfold Gu at a;simp only[Ww]at a;exact eq_of_beq a.2.2.2.1
theorem LF (t:Int):∀(rest:List GState)(i:Nat)(v:List Int),v.length+rest.length≤1050000→(∀x∈rest,decide (x.f2>0)=(x.f0==1)) →
  eA t rest i v=some (cond (dP t v (dr rest)) (.x2 (v++dr rest)) (.ret false))
 |[],i,v,_,_=>by have e:dr []=[]:=rfl;unfold eA;rw[e,WG];rfl
 |x::rest,i,v,b,h=>by
  simp only[WL]at b;have c:=h x (by simp);unfold eA;rw[c];cases q:x.f0==1 with
  |false =>
   have e:dr (x::rest)=dr rest:=by unfold dr;rw[Yt (by rw[q];exact Xg)]
   rw[e];exact LF t rest (i+1) v (by omega) fun y a=>h y (by simp[a])
  |true =>
   have e:dr (x::rest)=x.f2::dr rest:=by unfold dr;rw[Ys (by rw[q]),Wv]
   have d:=LF t rest (i+1) (v++[x.f2]) (by rw[XT,XS];omega) fun y a=>h y (by simp[a])
   rw[e];unfold dP;rw[d,Wa (by omega),Wa (by rw[XS];omega),XM,XF];cases decide (x.f2>t)<;>cases ck v x.f2<;>rfl
theorem Dk (l:List GState):(dr l).length≤l.length:=by unfold dr;rw[WH];exact List.length_filter_le _ _
theorem K1 (b:GBoard)(hb:ab.sm b)(s:a6 b.f1=true):∀(rest:List GRun)(i:Nat),b.f2.drop i=rest →
  iZ b.f0 b.f1 b.f2 b.f3 b.f4 rest i=some (cond (gd b (gG b.f2 i) rest) .x0 (.ret false)) ∧
  ∀v:List Int,v.length+4*rest.length≤1000000→ez b.f0 b.f1 b.f2 b.f3 b.f4 rest i v=some (cond (gd b (gG b.f2 i) rest&&dP b.f4 v (cD rest)) .x0 (.ret false))
 |[],i,_=>⟨rfl,fun v _=>rfl⟩
 |x::rest,i,h=>by
  obtain⟨a,d⟩:=K1 b hb s rest (i+1) (au h);rw[wy h]at a d;have c:GBoard.mk b.f0 b.f1 b.f2 b.f3 b.f4=b:=rfl;obtain⟨-, -,C,D⟩:=xm b x.f0 hb.2.1.1;unfold iZ gd xn;by_cases q:ap b x.f0<0
  ·have u:ak b.f1 (ap b x.f0)=none:=by unfold ak;rw[Wo (by omega)]
   simp only[c,Wa hb,Wi q,Wn,u,Yl];refine⟨rfl,fun v _=>?_⟩;unfold ez;simp only[c,Wa hb,Wi q,Wn];rfl
  ·obtain⟨g,n,w⟩:=cA (l:=b.f1) (k:=ap b x.f0) (by omega);obtain⟨hs,hd⟩:=rW hb s w;have o:decide (ap b x.f0<0)=false:=Wj q;have f:∀v:List Int,v.length+4*(x::rest).length≤1000000→bC g.f0 x=true→((if x.f3.length≤9223372036854775807 then(eA b.f4 x.f3 0 v).bind fun y=>match y with
      | .ret j=>(some (.ret j))
      | .x2 m=>(ez b.f0 b.f1 b.f2 b.f3 b.f4 rest (i+1) m)else none):Option u4)=some (cond (gd b (some x) rest&&dP b.f4 v (cD (x::rest))) .x0 (.ret false)):=fun v hv z=>by
    simp only[WL]at hv;obtain⟨F,A⟩:=Cr z hd;have:=Dk x.f3;have e:cD (x::rest)=dr x.f3++cD rest:=by unfold cD;rw[WA]
    rw[Wa (by omega),LF b.f4 x.f3 0 v (by omega) A,e,xx];cases dP b.f4 v (dr x.f3)with
    |false=>cases gd b (some x) rest<;>rfl
    |true=>exact(d (v++dr x.f3) (by rw[XT];omega)).trans (by cases gd b (some x) rest<;>rfl)
   by_cases hi:0<i
   ·obtain⟨y,B,t⟩:=yq h hi hb.2.2.1;have hc:decide ((i:Int)>0)=true:=Wi (by omega);rw[B];simp only[c,Wa hb,o,Wu,n,V9,Wa hs,Wa hd,hc,Wn,t,Qq,a];refine⟨?_,fun v hv=>?_⟩
    ·cases bC g.f0 x<;>cases decide (x.f1.f0<g.f3)<;>cases ahead y x<;>rfl
    ·unfold ez;simp only[c,Wa hb,o,Wu,n,V9,Wa hs,Wa hd,hc,Wn,t];cases p:bC g.f0 x with
     |false=>cases ahead y x<;>rfl
     |true =>
      have hh:=f v hv p;cases ahead y x with
      |false=>cases decide (x.f1.f0<g.f3)<;>rfl
      |true =>
       cases decide (x.f1.f0<g.f3)with
       |true=>rfl
       |false=>exact hh
   ·have hz:i=0:=by omega
    subst hz;have hc:decide (((0:Nat):Int)>0)=false:=rfl;have r:gG b.f2 0=none:=rfl;rw[r];simp only[c,Wa hb,o,Wu,n,V9,Wa hs,Wa hd,hc,a];refine⟨?_,fun v hv=>?_⟩
    ·cases bC g.f0 x<;>cases decide (x.f1.f0<g.f3)<;>rfl
    ·unfold ez;simp only[c,Wa hb,o,Wu,n,V9,Wa hs,Wa hd,hc];cases p:bC g.f0 x with
     |false=>rfl
     |true =>
      have hh:=f v hv p;cases decide (x.f1.f0<g.f3)with
      |true=>rfl
      |false=>exact hh
theorem PL (b:GBoard)(hb:ab.sm b)(d:a6 b.f1=true):tM b=some (bP b):=by obtain⟨c, -⟩:=K1 b hb d b.f2 0 rfl;have a:gG b.f2 0=none:=rfl;rw[a]at c;unfold tM bP;rw[Wa (bM hb.2.2),c];cases gd b none b.f2<;>rfl
theorem Rz (b:GBoard)(hb:ab.sm b)(d:a6 b.f1=true)(f:b.f2.length≤8):sf b=some (xq b):=by obtain⟨-,e⟩:=K1 b hb d b.f2 0 rfl;have c:=e [] (by rw[Yn];omega);have a:gG b.f2 0=none:=rfl;rw[a]at c;unfold sf xq bP;rw[Wa (bM hb.2.2),c];cases gd b none b.f2<;>cases dP b.f4 [] (cD b.f2)<;>cases decide ((b.f2.length:Int)≤8)<;>rfl
theorem rL {q0:Kd}(a:GBoard)(h:ab.sm a)(b:a6 a.f1=true)(c:a.f2.length≤8):Does E 28 [.agg (VI .far q0 a)] [VY (xq a)]:=by exact Nw a _ (Rz a h b c)
theorem pE {q0:Kd}(a:GBoard)(h:ab.sm a)(b:a6 a.f1=true):Does E 41 [.agg (VI .far q0 a)] [VY (bP a)]:=by exact Pb a _ (PL a h b)
inductive yX where|x2 (v3:List Int)
def jR (q0:Kd)(v3:List Int)(v9:List GRun)(v10 v11:Int)(v16:List GState)(a b:Int):US:=stL 33 [(3,.one (V7 1 (v3.map etI))),(9,.one (V8 5 (v9.map (VM q0)))),(10,V2 v10),(11,V2 v11),(16,.one (V8 4 (v16.map VP))),(17,V2 a),(18,V2 b)]
def qg (q0:Kd)(v9:List GRun)(v10 v11:Int)(a:List Int):US:=stL 33 [(3,.one (V7 1 (a.map etI))),(9,.one (V8 5 (v9.map (VM q0)))),(10,V2 v10),(11,V2 v11)]
abbrev sU:US→Exit→US→Prop:=Round E 71 (an Tryz.f71 1)
def HS {q0:Kd}(v3:List Int)(v9:List GRun)(v10 v11:Int)(v16:List GState)(a b:Int):yX→Prop| .x2 c=>Loops E 71 (an Tryz.f71 1) (jR q0 v3 v9 v10 v11 v16 a b) (.exit 2) (qg q0 v9 v10 v11 c)
noncomputable def fm  : List GState→Nat→(List Int)→Option yX|[],i,v3=>some (.x2 v3)|hd::rest,i,v3=>cond (hd.f0==(1:Int)) (if(v3.length+([hd.f2]).length)*8≤140737488355328∧v3.length+([hd.f2]).length≤4611686018427387904 then fm rest (i+1) (v3++([hd.f2]))else none) (fm rest (i+1) v3)
theorem HQ {q0:Kd}(v9:List GRun)(v10 v11:Int)(v16:List GState)(rest:List GState):∀(i:Nat)(v3:List Int),(v16).drop i=rest→v16.length≤9223372036854775807→Ans (fm rest i v3) (HS (q0:=q0) v3 v9 v10 v11 v16 (v16.length:Int) (i:Int)):=by
 induction rest with
 |nil =>intro i v3 a c;have hb:=aK a;unfold fm;exact Vz (VB (show sU (jR q0 v3 v9 v10 v11 v16 (v16.length:Int) (i:Int)) (.exit 2) (qg q0 v9 v10 v11 v3)from RP [.b false] (AC hb<|AN)) (by intro h;cases h))
 |cons hd rest e =>
  intro i v3 a c;have hb:=aF a;have f:=aG a c;have b:=au a;have g:=aE a;unfold fm;apply VC<;>intro j
  ·apply VE;intro k;exact(e (i+1) (v3++([hd.f2])) b c).mono fun y d=>by have r:sU (jR q0 v3 v9 v10 v11 v16 (v16.length:Int) (i:Int)) .normal (jR q0 (v3++([hd.f2])) v9 v10 v11 v16 (v16.length:Int) (inc (i:Int))):=RP [.b true,.row (VP hd),.b true,.rows ((v3++([hd.f2])).map etI)] (AC hb<|AR VP g<|AC j<|AAp etI (fun _=>rfl) k<|AN);rw[f]at r;cases y<;>exact VA r d
  ·exact(e (i+1) v3 b c).mono fun y d=>by have r:sU (jR q0 v3 v9 v10 v11 v16 (v16.length:Int) (i:Int)) .normal (jR q0 v3 v9 v10 v11 v16 (v16.length:Int) (inc (i:Int))):=RP [.b true,.row (VP hd),.b false] (AC hb<|AR VP g<|AC j<|AN);rw[f]at r;cases y<;>exact VA r d
inductive yW where|x0 (v3:List Int)
def oF (q0:Kd)(v3:List Int)(v9:List GRun)(v10 v11:Int):US:=stL 33 [(3,.one (V7 1 (v3.map etI))),(9,.one (V8 5 (v9.map (VM q0)))),(10,V2 v10),(11,V2 v11)]
def qf (q0:Kd)(a:List Int):US:=stL 33 [(3,.one (V7 1 (a.map etI)))]
abbrev yV:US→Exit→US→Prop:=Round E 71 (an Tryz.f71 0)
def HR {q0:Kd}(v3:List Int)(v9:List GRun)(v10 v11:Int):yW→Prop| .x0 a=>Loops E 71 (an Tryz.f71 0) (oF q0 v3 v9 v10 v11) (.exit 0) (qf q0 a)
noncomputable def gp  : List GRun→Nat→(List Int)→Option yW
 |[],i,v3=>some (.x0 v3)
 |hd::rest,i,v3=>if hd.f3.length≤9223372036854775807 then(fm hd.f3 0 v3).bind fun y=>match y with
  | .x2 a=>(gp rest (i+1) a)else none
theorem HP {q0:Kd}(v9:List GRun)(rest:List GRun):∀(i:Nat)(v3:List Int),(v9).drop i=rest→v9.length≤9223372036854775807→Ans (gp rest i v3) (HR (q0:=q0) v3 v9 (v9.length:Int) (i:Int)):=by
 induction rest with
 |nil =>intro i v3 b d;have hb:=aK b;unfold gp;exact Vz (VB (show yV (oF q0 v3 v9 (v9.length:Int) (i:Int)) (.exit 0) (qf q0 v3)from RP [.b false] (AC hb<|AN)) (by intro h;cases h))
 |cons hd rest g =>
  intro i v3 b d;have hb:=aF b;have j:=aG b d;have e:=au b;have k:=aE b;unfold gp;apply VE;intro f;apply VD;intro y c;replace c:=HQ (q0:=q0) v9 (v9.length:Int) (i:Int) hd.f3 hd.f3 0 v3 rfl f y c;cases y with
  |x2 a =>have l:=c;exact(g (i+1) a e d).mono fun y c=>by have r:yV (oF q0 v3 v9 (v9.length:Int) (i:Int)) .normal (oF q0 a v9 (v9.length:Int) (inc (i:Int))):=RP [.b true,.row ((VM q0) hd),V5 (hd.f3.length:Int),.lp (.exit 2) (qg q0 v9 (v9.length:Int) (i:Int) a)] (AC hb<|AR (VM q0) k<|ALn hd.f3 VP<|AL l<|AN);rw[j]at r;cases y<;>exact VA r c
noncomputable def qh (b:GBoard):Option ((List Int)):=
  if b.f2.length≤9223372036854775807 then(gp b.f2 0 ([])).bind fun y=>match y with
   | .x0 a=>(some (a))else none
theorem J9 {q0:Kd}(x0:GBoard):Ans (qh x0) (fun r=>Does E 71 [.agg (VI .far q0 x0)] [(false,[V7 1 (r.map etI)])]):=by
 unfold qh;apply VE;intro b;apply VD;intro y c;replace c:=HP (q0:=q0) x0.f2 x0.f2 0 ([]) rfl b y c;cases y with
 |x0 a =>have d:=c;exact Vz (DP Tryz.f71 [V5 (x0.f2.length:Int),.lp (.exit 0) (qf q0 a)] (ALn x0.f2 (VM q0)<|AL d<|AN))
noncomputable def dy (b:GBoard):List Int:=cD b.f2
theorem Dj:∀(rest:List GState)(i:Nat)(v:List Int),v.length+rest.length≤10000000000000→fm rest i v=some (.x2 (v++dr rest))
 |[],i,v,_=>by have e:dr []=[]:=rfl;unfold fm;rw[e,WG]
 |x::rest,i,v,a=>by
  simp only[WL]at a;unfold fm;cases q:x.f0==1 with
  |false =>
   have e:dr (x::rest)=dr rest:=by unfold dr;rw[Yt (by rw[q];exact Xg)]
   rw[e];exact Dj rest (i+1) v (by omega)
  |true =>
   have e:dr (x::rest)=x.f2::dr rest:=by unfold dr;rw[Ys (by rw[q]),Wv]
   have b:=Dj rest (i+1) (v++[x.f2]) (by rw[XT,XS];omega);rw[e,Wn,Wa (by rw[XS];omega),b,XM,XF]
theorem GJ:∀(rest:List GRun)(i:Nat)(v:List Int),(∀y∈rest,ab.sm y)→v.length+rest.length*1050000≤9000000000000→gp rest i v=some (.x0 (v++cD rest))
 |[],i,v,_,_=>by have e:cD []=[]:=rfl;unfold gp;rw[e,WG]
 |x::rest,i,v,h,a=>by
  simp only[WL]at a;have c:=(h x (by simp)).2.2.1;have:=Dk x.f3;have e:cD (x::rest)=dr x.f3++cD rest:=by unfold cD;rw[WA]
  unfold gp;rw[Wa (by omega),Dj x.f3 0 v (by omega),e, ←XM];exact GJ rest (i+1) (v++dr x.f3) (fun y b=>h y (by simp[b])) (by rw[XT];omega)
theorem P8 (b:GBoard)(hb:ab.sm b):qh b=some (dy b):=by have:=hb.2.2.1;unfold qh dy;rw[Wa (by omega),GJ b.f2 0 [] hb.2.2.2 (by rw[Yn];omega)];rfl
theorem zI {q0:Kd}(a:GBoard)(h:ab.sm a):Does E 71 [.agg (VI .far q0 a)] [(false,[V7 1 ((dy a).map etI)])]:=by exact J9 a _ (P8 a h)
inductive yY where|ret (v2:Bool)|x0
def iH (q0:Kd)(a:List GSession)(b:List GPlan)(c:List GRun)(d e:Int)(v3:List Int)(v9 v10:Int):US:=stL 30 [(1,.box () [V8 3 (a.map VN),V8 9 (b.map (VL q0 q0)),V8 5 (c.map (VM q0)),tI d,tI e]),(3,.one (V7 1 (v3.map etI))),(8,.al 3 0 [] 0 (v3.map etI).length),(9,V2 v9),(10,V2 v10)]
def lq (q0:Kd)(a:Bool):US:=stL 30 [(2,V3 a)]
def qi (q0:Kd)(a:List GSession)(b:List GPlan)(c:List GRun)(d e:Int):US:=stL 30 [(1,.box () [V8 3 (a.map VN),V8 9 (b.map (VL q0 q0)),V8 5 (c.map (VM q0)),tI d,tI e])]
abbrev oG:US→Exit→US→Prop:=Round E 42 (an Tryz.f42 0)
def HU {q0:Kd}(a:List GSession)(b:List GPlan)(c:List GRun)(d e:Int)(v3:List Int)(v9 v10:Int):yY→Prop| .ret f=>Loops E 42 (an Tryz.f42 0) (iH q0 a b c d e v3 v9 v10) .ret (lq q0 f)| .x0=>Loops E 42 (an Tryz.f42 0) (iH q0 a b c d e v3 v9 v10) (.exit 0) (qi q0 a b c d e)
noncomputable def iI (a:Int)(v3:List Int):List Int→Nat→Option yY|[],i=>some (.x0)|hd::rest,i=>cond (decide (hd>a)) (some (.ret false)) (if 0≤(0:Int)∧(0:Int)≤(i:Int)∧(i:Int)≤(v3.length:Int)then if((v3.drop (0:Int).toNat).take ((i:Int).toNat-(0:Int).toNat)).length≤1050000 then cond (ck ((v3.drop (0:Int).toNat).take ((i:Int).toNat-(0:Int).toNat)) hd) (some (.ret false)) (iI a v3 rest (i+1))else none else none)
theorem HT {q0:Kd}(b:List GSession)(c:List GPlan)(d:List GRun)(e a:Int)(v3:List Int)(rest:List Int):∀(i:Nat) ,(v3).drop i=rest→v3.length≤9223372036854775807→Ans (iI a v3 rest i) (HU (q0:=q0) b c d e a v3 (v3.length:Int) (i:Int)):=by
 induction rest with
 |nil =>intro i f g;have hb:=aK f;unfold iI;exact Vz (VB (show oG (iH q0 b c d e a v3 (v3.length:Int) (i:Int)) (.exit 0) (qi q0 b c d e a)from RP [.b false] (AC hb<|AN)) (by intro h;cases h))
 |cons hd rest s =>
  intro i f g;have hb:=aF f;have t:=aG f g;have j:=au f;have l:=aE f;unfold iI;apply VC<;>intro m
  ·exact Vz (VB (show oG (iH q0 b c d e a v3 (v3.length:Int) (i:Int)) .ret (lq q0 false)from RP [.b true,.row (etI hd),.b true] (AC hb<|AG etI l<|AC m<|AN)) (by intro h;cases h))
  ·apply VE;intro n;apply VE;intro o;apply VC<;>intro q
   ·exact Vz (VB (show oG (iH q0 b c d e a v3 (v3.length:Int) (i:Int)) .ret (lq q0 false)from RP [.b true,.row (etI hd),.b false,rT] (AC hb<|AG etI l<|AC m<|AC (p:=0≤(0:Int)∧(0:Int)≤(i:Int)∧(i:Int)≤((v3.map etI).length:Int)) (Gt n)<|AV (ψ:=fun k=>E.C k 72 [.one (V8 1 (((v3.map etI).drop (0+(0:Int).toNat)).take ((i:Int).toNat-(0:Int).toNat))),V2 hd]=some [VY true]) (VG (by simp only[XX,Di,WS,WK]) (VF (ee ((v3.drop (0:Int).toNat).take ((i:Int).toNat-(0:Int).toNat)) hd o) (by rw[q])))<|AN)) (by intro h;cases h))
   ·exact(s (i+1) j g).mono fun y u=>by have r:oG (iH q0 b c d e a v3 (v3.length:Int) (i:Int)) .normal (iH q0 b c d e a v3 (v3.length:Int) (inc (i:Int))):=RP [.b true,.row (etI hd),.b false,rF] (AC hb<|AG etI l<|AC m<|AC (p:=0≤(0:Int)∧(0:Int)≤(i:Int)∧(i:Int)≤((v3.map etI).length:Int)) (Gt n)<|AV (ψ:=fun k=>E.C k 72 [.one (V8 1 (((v3.map etI).drop (0+(0:Int).toNat)).take ((i:Int).toNat-(0:Int).toNat))),V2 hd]=some [VY false]) (VG (by simp only[XX,Di,WS,WK]) (VF (ee ((v3.drop (0:Int).toNat).take ((i:Int).toNat-(0:Int).toNat)) hd o) (by rw[q])))<|AN);rw[t]at r;cases y<;>exact VA r u
noncomputable def qj (a:GBoard):Option (Bool):=
  if ab.sm a then if(dy a).length≤9223372036854775807 then(iI a.f4 (dy a) (dy a) 0).bind fun y=>match y with
   | .ret b=>(some (b))
   | .x0=>(some (ag a.f4 0 999999991))else none else none
theorem Ka {q0:Kd}(x0:GBoard):Ans (qj x0) (fun r=>Does E 42 [.agg (VI .far q0 x0)] [VY r]):=by
 unfold qj;apply VE;intro e;apply VE;intro c;apply VD;intro y b;replace b:=HT (q0:=q0) x0.f0 x0.f1 x0.f2 x0.f3 x0.f4 (dy x0) (dy x0) 0 rfl c y b;cases y with
 |ret a =>have d:=b;exact Vz (DP Tryz.f42 [.ret [(false,[V7 1 ((dy x0).map etI)])],V5 ((dy x0).length:Int),.lp .ret (lq q0 a)] (AV (ψ:=fun k=>E.C k 71 [.agg (VI .far q0 x0)]=some [(false,[V7 1 ((dy x0).map etI)])]) (zI x0 e)<|ALn (dy x0) etI<|AL d<|AN))
 |x0 =>have d:=b;exact Vz (DP Tryz.f42 [.ret [(false,[V7 1 ((dy x0).map etI)])],V5 ((dy x0).length:Int),.lp (.exit 0) (qi q0 x0.f0 x0.f1 x0.f2 x0.f3 x0.f4),.ret [VY (ag x0.f4 0 999999991)]] (AV (ψ:=fun k=>E.C k 71 [.agg (VI .far q0 x0)]=some [(false,[V7 1 ((dy x0).map etI)])]) (zI x0 e)<|ALn (dy x0) etI<|AL d<|AD (ao x0.f4 0 (999999991:Int))<|AN))
noncomputable def pj (b:GBoard):Bool:=dP b.f4 [] (cD b.f2)&&ag b.f4 0 999999991
theorem SW (b:GBoard)(hb:ab.sm b)(h:a6 b.f1=true)(d:bP b=true):(cD b.f2).length≤1000:=by
 unfold bP at d;rw[Ww,W3]at d;have i:∀(l:List GRun)(q:Option GRun),gd b q l=true→(cD l).length≤4*l.length:=by
  intro l;induction l with
  |nil=>intro q _;simp[cD]
  |cons x l j =>
   intro q c;unfold gd at c;simp only[Ww]at c;have i2:=j _ c.2.2;have e:cD (x::l)=dr x.f3++cD l:=by unfold cD;rw[WA]
   have a:=c.1;unfold xn at a;have k:=Dk x.f3;cases f:ak b.f1 (ap b x.f0)with
   |none=>rw[f]at a;cases a
   |some g =>rw[f]at a;replace a:(bC g.f0 x && !decide (x.f1.f0<g.f3))=true:=a;rw[Ww]at a;obtain⟨-,hd⟩:=rW hb h (Wd (ke f).2);have m:=(Cr a.1 hd).1;rw[e,XT,WL];omega
 have:=i _ _ d.1;omega
theorem LE (t:Int)(ax:List Int)(c:ax.length≤1050000):∀(rest:List Int)(i:Nat),ax.drop i=rest→iI t ax rest i=some (cond (dP t (ax.take i) rest) .x0 (.ret false))
 |[],i,_=>rfl
 |x::rest,i,h=>by
  have d:=lH h;have b:=LE t ax c rest (i+1) (au h);have f:ax[i]?=some x:=by have:=aE h;rw[cp]at this;exact this
  have e:ax.take (i+1)=ax.take i++[x]:=by rw[YY,f];rfl
  have g:(ax.drop (0:Int).toNat).take ((i:Int).toNat-(0:Int).toNat)=ax.take i:=by simp
  rw[e]at b;unfold iI dP;rw[g,b,Wa (by omega)];have a:(ax.take i).length≤1050000:=by rw[List.length_take];omega
  first
   |(rw[Wa a];cases decide (x>t)<;>cases ck (ax.take i) x<;>rfl)
   |(cases decide (x>t)<;>cases ck (ax.take i) x<;>rfl)
theorem P9 (b:GBoard)(hb:ab.sm b)(a:a6 b.f1=true)(c:bP b=true):qj b=some (pj b):=by have e:(dy b).length≤1000:=SW b hb a c;have d:=LE b.f4 (dy b) (by omega) (dy b) 0 rfl;unfold qj pj;rw[Wa hb,Wa (by omega),d,List.take_zero];show Option.bind (some (cond (dP b.f4 [] (cD b.f2)) _ _)) _=_;cases dP b.f4 [] (cD b.f2)<;>rfl
theorem pG {q0:Kd}(a:GBoard)(h:ab.sm a)(b:a6 a.f1=true)(c:bP a=true):Does E 42 [.agg (VI .far q0 a)] [VY (pj a)]:=by exact Ka a _ (P9 a h b c)
noncomputable def rZ (a:GBoard):Option (Bool):=if ab.sm a.f0 then cond (d6 a.f0) (cond (decide ((a.f1.length:Int)>(2:Int))) (some (false)) (cond (decide ((a.f2.length:Int)>(8:Int))) (some (false)) (cond (ag a.f4 0 999999991) (cond (ag a.f3 0 68374079) (if ab.sm a then cond (uO a) (if a6 a.f1=true then if a.f2.length≤8 then cond (xq a) (cond (decide ((a8 a (⟨#[111,110,101]⟩:Y9))≤(1:Int))) (cond (decide ((a8 a (⟨#[116,119,111]⟩:Y9))≤(2:Int))) (some (decide ((a8 a (⟨#[119,105,100,101]⟩:Y9))≤(4:Int)))) (some (false))) (some (false))) (some (false))else none else none) (some (false))else none) (some (false))) (some (false))))) (some (false))else none
theorem M7 {q0:Kd}(a:GBoard):Ans (rZ a) (fun r=>Does E 12 [.agg (VI .far q0 a)] [VY r]):=by
 unfold rZ;apply VE;intro c;apply VC<;>intro d
 ·apply VC<;>intro e
  ·exact Vz (DP Tryz.f12 [rT,V5 (a.f1.length:Int),.b true] (AD (VH (dh a.f0 c) d)<|ALn a.f1 (VL q0 q0)<|AC e<|AN))
  ·apply VC<;>intro g
   ·exact Vz (DP Tryz.f12 [rT,V5 (a.f1.length:Int),.b false,V5 (a.f2.length:Int),.b true] (AD (VH (dh a.f0 c) d)<|ALn a.f1 (VL q0 q0)<|AC e<|ALn a.f2 (VM q0)<|AC g<|AN))
   ·apply VC<;>intro h
    ·apply VC<;>intro j
     ·apply VE;intro b;apply VC<;>intro l
      ·apply VE;intro n;apply VE;intro o;apply VC<;>intro f
       ·apply VC<;>intro i
        ·apply VC<;>intro m
         ·exact Vz (DP Tryz.f12 [rT,V5 (a.f1.length:Int),.b false,V5 (a.f2.length:Int),.b false,rT,rT,rT,rT,.ret [VX (a8 a (⟨#[111,110,101]⟩:Y9))],.b true,.ret [VX (a8 a (⟨#[116,119,111]⟩:Y9))],.b true,.ret [VX (a8 a (⟨#[119,105,100,101]⟩:Y9))]] (AD (VH (dh a.f0 c) d)<|ALn a.f1 (VL q0 q0)<|AC e<|ALn a.f2 (VM q0)<|AC g<|AD (VH (ae a.f4 0 999999991) h)<|AD (VH (ae a.f3 0 68374079) j)<|AV (ψ:=fun k=>E.C k 27 [.agg (VI .far q0 a)]=some [VY true]) (VF (mA a b) (by rw[l]))<|AV (ψ:=fun k=>E.C k 28 [.agg (VI .far q0 a)]=some [VY true]) (VF (rL a b n o) (by rw[f]))<|AV (ψ:=fun k=>E.C k 29 [.agg (VI .far q0 a),V4 (⟨#[111,110,101]⟩:Y9)]=some [VX (a8 a (⟨#[111,110,101]⟩:Y9))]) (j8 a (⟨#[111,110,101]⟩:Y9) b)<|AC i<|AV (ψ:=fun k=>E.C k 29 [.agg (VI .far q0 a),V4 (⟨#[116,119,111]⟩:Y9)]=some [VX (a8 a (⟨#[116,119,111]⟩:Y9))]) (j8 a (⟨#[116,119,111]⟩:Y9) b)<|AC m<|AV (ψ:=fun k=>E.C k 29 [.agg (VI .far q0 a),V4 (⟨#[119,105,100,101]⟩:Y9)]=some [VX (a8 a (⟨#[119,105,100,101]⟩:Y9))]) (j8 a (⟨#[119,105,100,101]⟩:Y9) b)<|AN))
         ·exact Vz (DP Tryz.f12 [rT,V5 (a.f1.length:Int),.b false,V5 (a.f2.length:Int),.b false,rT,rT,rT,rT,.ret [VX (a8 a (⟨#[111,110,101]⟩:Y9))],.b true,.ret [VX (a8 a (⟨#[116,119,111]⟩:Y9))],.b false] (AD (VH (dh a.f0 c) d)<|ALn a.f1 (VL q0 q0)<|AC e<|ALn a.f2 (VM q0)<|AC g<|AD (VH (ae a.f4 0 999999991) h)<|AD (VH (ae a.f3 0 68374079) j)<|AV (ψ:=fun k=>E.C k 27 [.agg (VI .far q0 a)]=some [VY true]) (VF (mA a b) (by rw[l]))<|AV (ψ:=fun k=>E.C k 28 [.agg (VI .far q0 a)]=some [VY true]) (VF (rL a b n o) (by rw[f]))<|AV (ψ:=fun k=>E.C k 29 [.agg (VI .far q0 a),V4 (⟨#[111,110,101]⟩:Y9)]=some [VX (a8 a (⟨#[111,110,101]⟩:Y9))]) (j8 a (⟨#[111,110,101]⟩:Y9) b)<|AC i<|AV (ψ:=fun k=>E.C k 29 [.agg (VI .far q0 a),V4 (⟨#[116,119,111]⟩:Y9)]=some [VX (a8 a (⟨#[116,119,111]⟩:Y9))]) (j8 a (⟨#[116,119,111]⟩:Y9) b)<|AC m<|AN))
        ·exact Vz (DP Tryz.f12 [rT,V5 (a.f1.length:Int),.b false,V5 (a.f2.length:Int),.b false,rT,rT,rT,rT,.ret [VX (a8 a (⟨#[111,110,101]⟩:Y9))],.b false] (AD (VH (dh a.f0 c) d)<|ALn a.f1 (VL q0 q0)<|AC e<|ALn a.f2 (VM q0)<|AC g<|AD (VH (ae a.f4 0 999999991) h)<|AD (VH (ae a.f3 0 68374079) j)<|AV (ψ:=fun k=>E.C k 27 [.agg (VI .far q0 a)]=some [VY true]) (VF (mA a b) (by rw[l]))<|AV (ψ:=fun k=>E.C k 28 [.agg (VI .far q0 a)]=some [VY true]) (VF (rL a b n o) (by rw[f]))<|AV (ψ:=fun k=>E.C k 29 [.agg (VI .far q0 a),V4 (⟨#[111,110,101]⟩:Y9)]=some [VX (a8 a (⟨#[111,110,101]⟩:Y9))]) (j8 a (⟨#[111,110,101]⟩:Y9) b)<|AC i<|AN))
       ·exact Vz (DP Tryz.f12 [rT,V5 (a.f1.length:Int),.b false,V5 (a.f2.length:Int),.b false,rT,rT,rT,rF] (AD (VH (dh a.f0 c) d)<|ALn a.f1 (VL q0 q0)<|AC e<|ALn a.f2 (VM q0)<|AC g<|AD (VH (ae a.f4 0 999999991) h)<|AD (VH (ae a.f3 0 68374079) j)<|AV (ψ:=fun k=>E.C k 27 [.agg (VI .far q0 a)]=some [VY true]) (VF (mA a b) (by rw[l]))<|AV (ψ:=fun k=>E.C k 28 [.agg (VI .far q0 a)]=some [VY false]) (VF (rL a b n o) (by rw[f]))<|AN))
      ·exact Vz (DP Tryz.f12 [rT,V5 (a.f1.length:Int),.b false,V5 (a.f2.length:Int),.b false,rT,rT,rF] (AD (VH (dh a.f0 c) d)<|ALn a.f1 (VL q0 q0)<|AC e<|ALn a.f2 (VM q0)<|AC g<|AD (VH (ae a.f4 0 999999991) h)<|AD (VH (ae a.f3 0 68374079) j)<|AV (ψ:=fun k=>E.C k 27 [.agg (VI .far q0 a)]=some [VY false]) (VF (mA a b) (by rw[l]))<|AN))
     ·exact Vz (DP Tryz.f12 [rT,V5 (a.f1.length:Int),.b false,V5 (a.f2.length:Int),.b false,rT,rF] (AD (VH (dh a.f0 c) d)<|ALn a.f1 (VL q0 q0)<|AC e<|ALn a.f2 (VM q0)<|AC g<|AD (VH (ae a.f4 0 999999991) h)<|AD (VH (ae a.f3 0 68374079) j)<|AN))
    ·exact Vz (DP Tryz.f12 [rT,V5 (a.f1.length:Int),.b false,V5 (a.f2.length:Int),.b false,rF] (AD (VH (dh a.f0 c) d)<|ALn a.f1 (VL q0 q0)<|AC e<|ALn a.f2 (VM q0)<|AC g<|AD (VH (ae a.f4 0 999999991) h)<|AN))
 ·exact Vz (DP Tryz.f12 [rF] (AD (VH (dh a.f0 c) d)<|AN))
inductive Al where|ret (v2:Bool)|x2
def kI (q0:Kd)(a:List GSession)(b:List GPlan)(c:List GRun)(d e:Int)(f:List GPlan)(g h:Int)(i:List GTask)(j k:Int):US:=stL 64 [(1,.box () [V8 3 (a.map VN),V8 9 (b.map (VL q0 q0)),V8 5 (c.map (VM q0)),tI d,tI e]),(34,.one (V8 9 (f.map (VL q0 q0)))),(35,V2 g),(36,V2 h),(48,.one (V8 5 (i.map (VQ q0)))),(49,V2 j),(50,V2 k)]
def pW (q0:Kd)(a:Bool):US:=stL 64 [(2,V3 a)]
def rb (q0:Kd)(a:List GSession)(b:List GPlan)(c:List GRun)(d e:Int)(f:List GPlan)(g h:Int):US:=stL 64 [(1,.box () [V8 3 (a.map VN),V8 9 (b.map (VL q0 q0)),V8 5 (c.map (VM q0)),tI d,tI e]),(34,.one (V8 9 (f.map (VL q0 q0)))),(35,V2 g),(36,V2 h)]
abbrev uz:US→Exit→US→Prop:=Round E 17 (an Tryz.f17 1)
def JU {q0:Kd}(a:List GSession)(b:List GPlan)(c:List GRun)(d e:Int)(f:List GPlan)(g h:Int)(i:List GTask)(j k:Int):Al→Prop| .ret l=>Loops E 17 (an Tryz.f17 1) (kI q0 a b c d e f g h i j k) .ret (pW q0 l)| .x2=>Loops E 17 (an Tryz.f17 1) (kI q0 a b c d e f g h i j k) (.exit 2) (rb q0 a b c d e f g h)
noncomputable def jA (a:List GSession)(b:List GPlan)(c:List GRun)(d e:Int):List GTask→Nat→Option Al|[],i=>some (.x2)|hd::rest,i=>if ab.sm (GBoard.mk a b c d e)then cond (decide ((a8 (GBoard.mk a b c d e) hd.f1)>(aP hd.f1))) (some (.ret false)) (jA a b c d e rest (i+1))else none
theorem JS {q0:Kd}(a:List GSession)(b:List GPlan)(c:List GRun)(d e:Int)(g:List GPlan)(j l:Int)(f:List GTask)(rest:List GTask):∀(i:Nat) ,(f).drop i=rest→f.length≤9223372036854775807→Ans (jA a b c d e rest i) (JU (q0:=q0) a b c d e g j l f (f.length:Int) (i:Int)):=by
 induction rest with
 |nil =>intro i m n;have hb:=aK m;unfold jA;exact Vz (VB (show uz (kI q0 a b c d e g j l f (f.length:Int) (i:Int)) (.exit 2) (rb q0 a b c d e g j l)from RP [.b false] (AC hb<|AN)) (by intro h;cases h))
 |cons hd rest t =>
  intro i m n;have hb:=aF m;have u:=aG m n;have o:=au m;have p:=aE m;unfold jA;apply VE;intro q;apply VC<;>intro s
  ·exact Vz (VB (show uz (kI q0 a b c d e g j l f (f.length:Int) (i:Int)) .ret (pW q0 false)from RP [.b true,.row ((VQ q0) hd),.ret [VX (a8 (GBoard.mk a b c d e) hd.f1)],.ret [VX (aP hd.f1)],.b true] (AC hb<|AR (VQ q0) p<|AV (ψ:=fun k=>E.C k 45 [.agg (VI .far q0 (GBoard.mk a b c d e)),V4 hd.f1]=some [VX (a8 (GBoard.mk a b c d e) hd.f1)]) (tv (GBoard.mk a b c d e) hd.f1 q)<|AD (fO hd.f1)<|AC s<|AN)) (by intro h;cases h))
  ·exact(t (i+1) o n).mono fun y v=>by have r:uz (kI q0 a b c d e g j l f (f.length:Int) (i:Int)) .normal (kI q0 a b c d e g j l f (f.length:Int) (inc (i:Int))):=RP [.b true,.row ((VQ q0) hd),.ret [VX (a8 (GBoard.mk a b c d e) hd.f1)],.ret [VX (aP hd.f1)],.b false] (AC hb<|AR (VQ q0) p<|AV (ψ:=fun k=>E.C k 45 [.agg (VI .far q0 (GBoard.mk a b c d e)),V4 hd.f1]=some [VX (a8 (GBoard.mk a b c d e) hd.f1)]) (tv (GBoard.mk a b c d e) hd.f1 q)<|AD (fO hd.f1)<|AC s<|AN);rw[u]at r;cases y<;>exact VA r v
inductive Ak where|ret (v2:Bool)|x0
def jy (q0:Kd)(a:List GSession)(b:List GPlan)(c:List GRun)(d e:Int)(f:List GPlan)(g h:Int):US:=stL 64 [(1,.box () [V8 3 (a.map VN),V8 9 (b.map (VL q0 q0)),V8 5 (c.map (VM q0)),tI d,tI e]),(34,.one (V8 9 (f.map (VL q0 q0)))),(35,V2 g),(36,V2 h)]
def mi (q0:Kd)(a:Bool):US:=stL 64 [(2,V3 a)]
def ra (q0:Kd)  : US:=stL 64 []
abbrev pV:US→Exit→US→Prop:=Round E 17 (an Tryz.f17 0)
def JT {q0:Kd}(a:List GSession)(b:List GPlan)(c:List GRun)(d e:Int)(f:List GPlan)(g h:Int):Ak→Prop| .ret i=>Loops E 17 (an Tryz.f17 0) (jy q0 a b c d e f g h) .ret (mi q0 i)| .x0=>Loops E 17 (an Tryz.f17 0) (jy q0 a b c d e f g h) (.exit 0) (ra q0)
noncomputable def jz (a:List GSession)(b:List GPlan)(c:List GRun)(d e:Int):List GPlan→Nat→Option Ak
 |[],i=>some (.x0)
 |hd::rest,i=>if ab.sm (GBoard.mk a b c d e)then cond (decide ((aO (GBoard.mk a b c d e) hd.f0.f0)>(2:Int)))
  (some (.ret false))
  (if hd.f0.f5.length≤9223372036854775807 then(jA a b c d e hd.f0.f5 0).bind fun y=>match y with
   | .ret f=>(some (.ret f))
   | .x2=>(jz a b c d e rest (i+1))else none)else none
theorem JR {q0:Kd}(a:List GSession)(b:List GPlan)(c:List GRun)(d e:Int)(f:List GPlan)(rest:List GPlan):∀(i:Nat) ,(f).drop i=rest→f.length≤9223372036854775807→Ans (jz a b c d e rest i) (JT (q0:=q0) a b c d e f (f.length:Int) (i:Int)):=by
 induction rest with
 |nil =>intro i j m;have hb:=aK j;unfold jz;exact Vz (VB (show pV (jy q0 a b c d e f (f.length:Int) (i:Int)) (.exit 0) (ra q0)from RP [.b false] (AC hb<|AN)) (by intro h;cases h))
 |cons hd rest u =>
  intro i j m;have hb:=aF j;have v:=aG j m;have n:=au j;have o:=aE j;unfold jz;apply VE;intro p;apply VC<;>intro q
  ·exact Vz (VB (show pV (jy q0 a b c d e f (f.length:Int) (i:Int)) .ret (mi q0 false)from RP [.b true,.row ((VL q0 q0) hd),.ret [VX (aO (GBoard.mk a b c d e) hd.f0.f0)],.b true] (AC hb<|AR (VL q0 q0) o<|AV (ψ:=fun k=>E.C k 44 [.agg (VI .far q0 (GBoard.mk a b c d e)),V4 hd.f0.f0]=some [VX (aO (GBoard.mk a b c d e) hd.f0.f0)]) (jv (GBoard.mk a b c d e) hd.f0.f0 p)<|AC q<|AN)) (by intro h;cases h))
  ·apply VE;intro s;apply VD;intro y l;replace l:=JS (q0:=q0) a b c d e f (f.length:Int) (i:Int) hd.f0.f5 hd.f0.f5 0 rfl s y l;cases y with
   |ret g =>have t:=l;exact Vz (VB (show pV (jy q0 a b c d e f (f.length:Int) (i:Int)) .ret (mi q0 g)from RP [.b true,.row ((VL q0 q0) hd),.ret [VX (aO (GBoard.mk a b c d e) hd.f0.f0)],.b false,V5 (hd.f0.f5.length:Int),.lp .ret (pW q0 g)] (AC hb<|AR (VL q0 q0) o<|AV (ψ:=fun k=>E.C k 44 [.agg (VI .far q0 (GBoard.mk a b c d e)),V4 hd.f0.f0]=some [VX (aO (GBoard.mk a b c d e) hd.f0.f0)]) (jv (GBoard.mk a b c d e) hd.f0.f0 p)<|AC q<|ALn hd.f0.f5 (VQ q0)<|AL t<|AN)) (by intro h;cases h))
   |x2 =>have t:=l;exact(u (i+1) n m).mono fun y l=>by have r:pV (jy q0 a b c d e f (f.length:Int) (i:Int)) .normal (jy q0 a b c d e f (f.length:Int) (inc (i:Int))):=RP [.b true,.row ((VL q0 q0) hd),.ret [VX (aO (GBoard.mk a b c d e) hd.f0.f0)],.b false,V5 (hd.f0.f5.length:Int),.lp (.exit 2) (rb q0 a b c d e f (f.length:Int) (i:Int))] (AC hb<|AR (VL q0 q0) o<|AV (ψ:=fun k=>E.C k 44 [.agg (VI .far q0 (GBoard.mk a b c d e)),V4 hd.f0.f0]=some [VX (aO (GBoard.mk a b c d e) hd.f0.f0)]) (jv (GBoard.mk a b c d e) hd.f0.f0 p)<|AC q<|ALn hd.f0.f5 (VQ q0)<|AL t<|AN);rw[v]at r;cases y<;>exact VA r l
noncomputable def rO (a:GBoard):Option (Bool):=
  if ab.sm a.f0 then cond (d6 a.f0)
   (if ab.sm a.f1 then cond (a6 a.f1)
    (if ab.sm a then if a6 a.f1=true then cond (bP a)
     (if bP a=true then cond (pj a)
      (cond (ls a.f3)
       (if a.f1.length≤9223372036854775807 then(jz a.f0 a.f1 a.f2 a.f3 a.f4 a.f1 0).bind fun y=>match y with
        | .ret b=>(some (b))
        | .x0=>(some (true))else none)
       (some (false)))
      (some (false))else none)
     (some (false))else none else none)
    (some (false))else none)
   (some (false))else none
theorem Me {q0:Kd}(x0:GBoard):Ans (rO x0) (fun r=>Does E 17 [.agg (VI .far q0 x0)] [VY r]):=by
 unfold rO;apply VE;intro c;apply VC<;>intro d
 ·apply VE;intro f;apply VC<;>intro g
  ·apply VE;intro a;apply VE;intro b;apply VC<;>intro h
   ·apply VE;intro j;apply VC<;>intro l
    ·apply VC<;>intro n
     ·apply VE;intro o;apply VD;intro y m;replace m:=JR (q0:=q0) x0.f0 x0.f1 x0.f2 x0.f3 x0.f4 x0.f1 x0.f1 0 rfl o y m;cases y with
      |ret i =>have e:=m;exact Vz (DP Tryz.f17 [rT,rT,rT,rT,rT,V5 (x0.f1.length:Int),.lp .ret (mi q0 i)] (AD (VH (gH x0.f0 c) d)<|AV (ψ:=fun k=>E.C k 40 [.one (V8 9 (x0.f1.map (VL q0 q0)))]=some [VY true]) (VF (lO x0.f1 f) (by rw[g]))<|AV (ψ:=fun k=>E.C k 41 [.agg (VI .far q0 x0)]=some [VY true]) (VF (pE x0 a b) (by rw[h]))<|AV (ψ:=fun k=>E.C k 42 [.agg (VI .far q0 x0)]=some [VY true]) (VF (pG x0 a b j) (by rw[l]))<|AD (VH (uk x0.f3) n)<|ALn x0.f1 (VL q0 q0)<|AL e<|AN))
      |x0 =>have e:=m;exact Vz (DP Tryz.f17 [rT,rT,rT,rT,rT,V5 (x0.f1.length:Int),.lp (.exit 0) (ra q0)] (AD (VH (gH x0.f0 c) d)<|AV (ψ:=fun k=>E.C k 40 [.one (V8 9 (x0.f1.map (VL q0 q0)))]=some [VY true]) (VF (lO x0.f1 f) (by rw[g]))<|AV (ψ:=fun k=>E.C k 41 [.agg (VI .far q0 x0)]=some [VY true]) (VF (pE x0 a b) (by rw[h]))<|AV (ψ:=fun k=>E.C k 42 [.agg (VI .far q0 x0)]=some [VY true]) (VF (pG x0 a b j) (by rw[l]))<|AD (VH (uk x0.f3) n)<|ALn x0.f1 (VL q0 q0)<|AL e<|AN))
     ·exact Vz (DP Tryz.f17 [rT,rT,rT,rT,rF] (AD (VH (gH x0.f0 c) d)<|AV (ψ:=fun k=>E.C k 40 [.one (V8 9 (x0.f1.map (VL q0 q0)))]=some [VY true]) (VF (lO x0.f1 f) (by rw[g]))<|AV (ψ:=fun k=>E.C k 41 [.agg (VI .far q0 x0)]=some [VY true]) (VF (pE x0 a b) (by rw[h]))<|AV (ψ:=fun k=>E.C k 42 [.agg (VI .far q0 x0)]=some [VY true]) (VF (pG x0 a b j) (by rw[l]))<|AD (VH (uk x0.f3) n)<|AN))
    ·exact Vz (DP Tryz.f17 [rT,rT,rT,rF] (AD (VH (gH x0.f0 c) d)<|AV (ψ:=fun k=>E.C k 40 [.one (V8 9 (x0.f1.map (VL q0 q0)))]=some [VY true]) (VF (lO x0.f1 f) (by rw[g]))<|AV (ψ:=fun k=>E.C k 41 [.agg (VI .far q0 x0)]=some [VY true]) (VF (pE x0 a b) (by rw[h]))<|AV (ψ:=fun k=>E.C k 42 [.agg (VI .far q0 x0)]=some [VY false]) (VF (pG x0 a b j) (by rw[l]))<|AN))
   ·exact Vz (DP Tryz.f17 [rT,rT,rF] (AD (VH (gH x0.f0 c) d)<|AV (ψ:=fun k=>E.C k 40 [.one (V8 9 (x0.f1.map (VL q0 q0)))]=some [VY true]) (VF (lO x0.f1 f) (by rw[g]))<|AV (ψ:=fun k=>E.C k 41 [.agg (VI .far q0 x0)]=some [VY false]) (VF (pE x0 a b) (by rw[h]))<|AN))
  ·exact Vz (DP Tryz.f17 [rT,rF] (AD (VH (gH x0.f0 c) d)<|AV (ψ:=fun k=>E.C k 40 [.one (V8 9 (x0.f1.map (VL q0 q0)))]=some [VY false]) (VF (lO x0.f1 f) (by rw[g]))<|AN))
 ·exact Vz (DP Tryz.f17 [rF] (AD (VH (gH x0.f0 c) d)<|AN))
def FI:Y9:=⟨#[111,110,101]⟩
def Gx:Y9:=⟨#[116,119,111]⟩
def wideT:Y9:=⟨#[119,105,100,101]⟩
noncomputable def uf (b:GBoard):Bool:=decide (a8 b FI≤1)&&(decide (a8 b Gx≤2)&&decide (a8 b wideT≤4))
noncomputable def nw (b:GBoard)(t:GTask):Bool := !decide (a8 b t.f1>aP t.f1)
noncomputable def C9 (b:GBoard):Bool:=b.f1.all fun p=>p.f0.f5.all (nw b)
theorem Hn (n:Y9)(a:List GPlan)(k:Int)(g:GPlan)(c:0≤k)(b:ak a k=some g)(hz:∀t∈g.f0.f5,(t.f1.toList==n.toList)=false):∀(rest:List GState)(i:Nat)(v:Int),cC n a k rest i v=some (.x2 v)
 |[],i,v=>rfl
 |x::rest,i,v=>by
  have d:=Hn n a k g c b hz rest (i+1) v;by_cases hi:i<g.f0.f5.length
  ·have e:ak g.f0.f5 (i:Int)=some g.f0.f5[i]:=by rw[cp];exact Wg hi
   have f:=hz _ (Xs hi);unfold cC;simp only[b,e,V9,show decide ((i:Int)<(g.f0.f5.length:Int))=true from Wi (by omega),show decide (k≥(0:Int))=true from Wi c,Wn,f,d];cases x.f0==(1:Int)<;>rfl
  ·exact Bt n a k g b (x::rest) i v (by omega)
theorem RW (n:Y9)(b:GBoard)(hb:ab.sm b)(hz:∀p∈b.f1,∀t∈p.f0.f5,(t.f1.toList==n.toList)=false):a8 b n=0:=by
 have e:∀(rest:List GRun)(i:Nat)(v:Int),(∀y∈rest,ab.sm y)→gU n b.f0 b.f1 b.f2 b.f3 b.f4 rest i v=some (.x0 v):=by
  intro rest;induction rest with
  |nil=>intro i v _;rfl
  |cons x rest f =>
   intro i v h;have j:=bM (h x (by simp)).2.2;have c:ab.sm (GBoard.mk b.f0 b.f1 b.f2 b.f3 b.f4):=hb;obtain⟨-, -,s,u⟩:=xm b x.f0 hb.2.1.1;have a:=f (i+1) v fun y m=>h y (by simp[m])
   unfold gU;simp only[Wa j,Wa c];rw[show(GBoard.mk b.f0 b.f1 b.f2 b.f3 b.f4)=b from rfl];by_cases q:ap b x.f0<0
   ·rw[LI n _ _ q];exact a
   ·obtain⟨g,o,r⟩:=cA (l:=b.f1) (k:=ap b x.f0) (by omega);rw[Hn n b.f1 _ g (by omega) o (hz g r)];exact a
 have d:=(GB b n hb).1;unfold lB at d;rw[Wa (bM hb.2.2),e b.f2 0 0 hb.2.2.2]at d;exact(X0 d).symm
theorem KP:aP FI=1:=by unfold aP ge FI;simp only[hJ];decide
theorem KR:aP Gx=2:=by unfold aP ge Gx;simp only[hJ];decide
theorem Ha:aP wideT=4:=by unfold aP ge wideT;simp only[hJ];decide
theorem PH {s:Y9}(h:(aP s != 0)=true):s=FI∨s=Gx∨s=wideT:=by
 unfold aP ge at h;simp only[hJ]at h;by_cases a:tx s=tx FI
 ·exact .inl (sG a)
 ·by_cases b:tx s=tx Gx
  ·exact .inr (.inl (sG b))
  ·by_cases c:tx s=tx wideT
   ·exact .inr (.inr (sG c))
   ·rw[show decide (tx s=tx ⟨#[111,110,101]⟩)=false from Wj a,show decide (tx s=tx ⟨#[116,119,111]⟩)=false from Wj b,show decide (tx s=tx ⟨#[119,105,100,101]⟩)=false from Wj c]at h;cases h
theorem SP (b:GBoard)(hb:ab.sm b)(m:a6 b.f1=true):C9 b=uf b:=by
 have f:∀(q:Y9)(k:Int),aP q=k→0≤k→C9 b=true→a8 b q≤k:=fun q k g n h=>by
  by_cases j:∃p∈b.f1,∃t∈p.f0.f5,(t.f1.toList==q.toList)=true
  ·obtain⟨p,a,t,c,l⟩:=j;rw[hJ,W3]at l;have d:=Wt.1 (Wt.1 h p a) t c;unfold nw at d;rw[sG l,g]at d;simp at d;exact d
  ·have:=RW q b hb fun p a t c=>by
    cases z:(t.f1.toList==q.toList)with
    |false=>rfl
    |true=>exact absurd ⟨p,a,t,c,z⟩ j
   omega
 refine Bool.eq_iff_iff.2 ⟨fun h=>?_,fun h=>?_⟩
 ·unfold uf;rw[Wi (f FI 1 KP (by decide) h),Wi (f Gx 2 KR (by decide) h),Wi (f wideT 4 Ha (by decide) h)];rfl
 ·unfold uf at h;simp only[Ww,W3]at h;refine Wt.2 fun p a=>Wt.2 fun t c=>?_
  obtain⟨hs,hd⟩:=rW hb m a;obtain⟨k,g,rfl⟩:=YK c;have i:=tU p.f0.f5 p.f0.f5 0 rfl (mE hd).2.2.1 k _ (by omega) (Wg g);unfold jI at i;simp only[Ww]at i;unfold nw;have o:a8 b p.f0.f5[k].f1≤aP p.f0.f5[k].f1:=by
   rcases PH i.2.2.1 with e|e|e
   ·rw[e,KP];exact h.1
   ·rw[e,KR];exact h.2.1
   ·rw[e,Ha];exact h.2.2
  rw[Wj (by omega)];rfl
noncomputable def jj (b:GBoard):Bool:=d6 b.f0&&(a6 b.f1&&(bP b&&(pj b&&(ls b.f3&&(b.f1.all (jJ b)&&uf b)))))
theorem NV (b:GBoard)(hb:ab.sm b):∀(rest:List GTask)(i:Nat),jA b.f0 b.f1 b.f2 b.f3 b.f4 rest i=some (cond (rest.all (nw b)) .x2 (.ret false))
 |[],i=>rfl
 |x::rest,i=>by
  have a:GBoard.mk b.f0 b.f1 b.f2 b.f3 b.f4=b:=rfl;have e:decide (a8 b x.f1>aP x.f1)= !nw b x:=by unfold nw;rw[Bool.not_not]
  unfold jA;rw[a,Wa hb,NV b hb rest,Xh,e];cases nw b x<;>rfl
theorem NU (b:GBoard)(hb:ab.sm b):∀(rest:List GPlan)(i:Nat),(∀y∈rest,ab.sm y)→jz b.f0 b.f1 b.f2 b.f3 b.f4 rest i=some (cond (rest.all (jJ b)&&rest.all fun p=>p.f0.f5.all (nw b)) .x0 (.ret false))
 |[],i,_=>rfl
 |x::rest,i,h=>by
  have a:GBoard.mk b.f0 b.f1 b.f2 b.f3 b.f4=b:=rfl;have c:decide (aO b x.f0.f0>2)= !jJ b x:=by unfold jJ;rw[Bool.not_not]
  have d:ab.sm x.f0:=h x (by simp);have e:=NU b hb rest (i+1) fun y f=>h y (by simp[f])
  unfold jz;rw[a,Wa hb,Wa (bM d.2.2),NV b hb,Xh,Xh,c];cases jJ b x with
  |false=>rfl
  |true =>
   cases x.f0.f5.all (nw b)with
   |false=>cases rest.all (jJ b)<;>rfl
   |true=>exact e.trans rfl
theorem Ql (b:GBoard)(hb:ab.sm b):rO b=some (jj b):=by
 unfold rO jj;rw[Wa hb.1,Wa hb.2.1,Wa hb,Wa (bM hb.2.1),NU b hb b.f1 0 hb.2.1.2];cases a:a6 b.f1 with
 |false=>cases d6 b.f0<;>rfl
 |true =>
  have e:=SP b hb a;unfold C9 at e;rw[e];cases d6 b.f0<;>try rfl
  cases rg:bP b<;>try rfl
  cases pj b<;>try rfl
  cases ls b.f3<;>try rfl
  cases b.f1.all (jJ b)<;>cases uf b<;>rfl
theorem Qm (b:GBoard)(hb:ab.sm b):rZ b=some (jj b):=by
 have c:ag b.f3 0 68374079=ls b.f3:=rfl;have d:uO b=(a6 b.f1&&b.f1.all (jJ b)):=rfl;have e:xq b=(bP b&&dP b.f4 [] (cD b.f2)):=rfl;have f:pj b=(dP b.f4 [] (cD b.f2)&&ag b.f4 0 999999991):=rfl;have g:uf b=(decide (a8 b ⟨#[111,110,101]⟩≤1)&&(decide (a8 b ⟨#[116,119,111]⟩≤2)&&decide (a8 b ⟨#[119,105,100,101]⟩≤4))):=rfl;unfold rZ jj;rw[c,d,f,g,Wa hb.1,Wa hb];by_cases l2:b.f1.length≤2
 ·by_cases h:b.f2.length≤8
  ·rw[Wj (show ¬((b.f1.length:Int)>2) by omega),Wj (show ¬((b.f2.length:Int)>8) by omega),Wa h,e];cases a6 b.f1 with
   |false=>cases d6 b.f0<;>cases ag b.f4 0 999999991<;>cases ls b.f3<;>rfl
   |true =>
    cases d6 b.f0<;>try rfl
    cases bP b with
    |false=>cases ag b.f4 0 999999991<;>cases ls b.f3<;>cases b.f1.all (jJ b)<;>rfl
    |true =>
     cases dP b.f4 [] (cD b.f2)with
     |false=>cases ag b.f4 0 999999991<;>cases ls b.f3<;>cases b.f1.all (jJ b)<;>rfl
     |true =>
      cases ag b.f4 0 999999991<;>try rfl
      cases ls b.f3<;>try rfl
      cases b.f1.all (jJ b)<;>try rfl
      cases decide (a8 b ⟨#[111,110,101]⟩≤1)<;>try rfl
      cases decide (a8 b ⟨#[116,119,111]⟩≤2)<;>rfl
  ·have a:bP b=false:=by unfold bP;rw[Wj (by omega)];exact XL _
   rw[Wi (show(b.f2.length:Int)>8 by omega),a];cases d6 b.f0<;>cases decide ((b.f1.length:Int)>2)<;>cases a6 b.f1<;>rfl
 ·have a:a6 b.f1=false:=by unfold a6;rw[Wj (by omega)];exact XL _
  rw[Wi (show(b.f1.length:Int)>2 by omega),a];cases d6 b.f0<;>rfl
theorem BO {q0:Kd}(a:GBoard)(h:ab.sm a):Does E 12 [.agg (VI .far q0 a)] [VY (jj a)]:=by exact M7 a _ (Qm a h)
theorem BI {q0:Kd}(a:GBoard)(h:ab.sm a):Does E 17 [.agg (VI .far q0 a)] [VY (jj a)]:=by exact Me a _ (Ql a h)
theorem G5 {ts:List GTask}(n:dn ts):∀(k:Nat)(o:List Int),o.Nodup→(∀x∈o,0≤x∧x<(ts.length:Int))→(kQ ts k o).Nodup∧∀x∈kQ ts k o,0≤x∧x<(ts.length:Int)
 | 0,o,c,d=>⟨c,d⟩
 |k+1,o,c,d=>by
  unfold kQ;cases q:fY o ts ts 0 with
  |none=>exact⟨c,d⟩
  |some i =>
   obtain⟨t,j,r,f,h,s⟩:=ta q;have l:i=j:=by omega
   subst l;rw[n.2 i t f]at h;have hi:i<ts.length:=by
    rcases Wl i ts.length with g|g
    ·exact g
    ·rw[Wh g]at f;cases f
   have m:(i:Int)∉o:=fun q=>by rw[C2.2 q]at h;cases h
   refine G5 n k _ ?_ fun x hx=>?_
   ·rw[List.nodup_append];exact⟨c,by simp,fun a p b hb e=>by rw[Wk]at hb;subst hb;subst e;exact m p⟩
   ·rcases WF.1 hx with hx|hx
    ·exact d x hx
    ·rw[Wk]at hx;subst hx;omega
theorem G4 {ts:List GTask}(a:dn ts):(bX ts).Nodup∧∀x∈bX ts,0≤x∧x<(ts.length:Int):=G5 a _ _ (by simp) (fun x b=>by cases b)
def xb (d:GDag)(i:Int):Bool:=ag i 0 (IntKind.wrap .i64 ((d.f5.length:Int)-1))
theorem Q4 {d:GDag}{i:Int}(h:xb d i=true)(hs:ab.sm d):0≤i∧i<(d.f5.length:Int):=we h hs.2.2.1
noncomputable def qS (b:GDag)(d:GRun)(a:Int)(f:Bool)(e:Int):Option (Bool):=
  match f with
   |true=>cond (ag a 0 (IntKind.wrap .i64 ((d.f3.length:Int)-(1:Int))))
    (if ab.sm b then if aH b=true then if d.f3.length=b.f5.length then if 0≤a∧a<(b.f5.length:Int)then cond ((aq b d a).1)
     ((ak d.f3 a).bind fun c=>cond (c.f0==(0:Int))
      (cond (decide (c.f3≤e))
       (some (true))
       (some (false)))
      (some (false)))
     ((ak d.f3 a).bind fun c=>cond (c.f0==(0:Int))
      (cond (decide (c.f3≤e))
       (some (false))
       (some (false)))
      (some (false)))else none else none else none else none)
    (some (false))
   |false=>cond (ag a 0 (IntKind.wrap .i64 ((d.f3.length:Int)-(1:Int))))
    (if ab.sm b then if aH b=true then if d.f3.length=b.f5.length then if 0≤a∧a<(b.f5.length:Int)then cond ((aq b d a).1)
     ((ak d.f3 a).bind fun c=>cond (c.f0==(0:Int))
      (cond (decide (c.f3≤e))
       ((ak b.f5 a).bind fun g1=>some (!g1.f3))
       (some (false)))
      (some (false)))
     ((ak d.f3 a).bind fun c=>cond (c.f0==(0:Int))
      (cond (decide (c.f3≤e))
       (some (false))
       (some (false)))
      (some (false)))else none else none else none else none)
    (some (false))
theorem Lk {q0:Kd}(c:GDag)(a:GRun)(b:Int)(j:Bool)(l:Int):Ans (qS c a b j l) (fun r=>Does E 33 [.agg (VK .far q0 c),.agg (VM .far a),V2 b,V3 j,V2 l] [VY r]):=by
 unfold qS;cases j with
 |true =>
  apply VC<;>intro e
  ·apply VE;intro f;apply VE;intro g;apply VE;intro h;apply VE;intro i;apply VC<;>intro f1
   ·apply VD;intro d f2;apply VC<;>intro f3
    ·apply VC<;>intro f4
     ·exact Vz (DP Tryz.f33 [V5 (a.f3.length:Int),rT,.ret [VY true,VY ((aq c a b).2)],.row (VP d),.b true,.row (VP d),.b true] (ALn a.f3 VP<|AD (VH (ae b 0 (IntKind.wrap .i64 ((a.f3.length:Int)-(1:Int)))) e)<|AV (ψ:=fun k=>E.C k 62 [.agg (VK .far q0 c),.agg (VM .far a),V2 b]=some [VY true,VY ((aq c a b).2)]) (VF (a7 c a b f g h i) (by rw[f1]))<|AR VP f2<|AC f3<|AR VP f2<|AC f4<|AN))
     ·exact Vz (DP Tryz.f33 [V5 (a.f3.length:Int),rT,.ret [VY ((aq c a b).1),VY ((aq c a b).2)],.row (VP d),.b true,.row (VP d),.b false] (ALn a.f3 VP<|AD (VH (ae b 0 (IntKind.wrap .i64 ((a.f3.length:Int)-(1:Int)))) e)<|AV (ψ:=fun k=>E.C k 62 [.agg (VK .far q0 c),.agg (VM .far a),V2 b]=some [VY ((aq c a b).1),VY ((aq c a b).2)]) (a7 c a b f g h i)<|AR VP f2<|AC f3<|AR VP f2<|AC f4<|AN))
    ·exact Vz (DP Tryz.f33 [V5 (a.f3.length:Int),rT,.ret [VY ((aq c a b).1),VY ((aq c a b).2)],.row (VP d),.b false] (ALn a.f3 VP<|AD (VH (ae b 0 (IntKind.wrap .i64 ((a.f3.length:Int)-(1:Int)))) e)<|AV (ψ:=fun k=>E.C k 62 [.agg (VK .far q0 c),.agg (VM .far a),V2 b]=some [VY ((aq c a b).1),VY ((aq c a b).2)]) (a7 c a b f g h i)<|AR VP f2<|AC f3<|AN))
   ·apply VD;intro d f5;apply VC<;>intro f6
    ·apply VC<;>intro f7
     ·exact Vz (DP Tryz.f33 [V5 (a.f3.length:Int),rT,.ret [VY false,VY ((aq c a b).2)],.row (VP d),.b true,.row (VP d),.b true] (ALn a.f3 VP<|AD (VH (ae b 0 (IntKind.wrap .i64 ((a.f3.length:Int)-(1:Int)))) e)<|AV (ψ:=fun k=>E.C k 62 [.agg (VK .far q0 c),.agg (VM .far a),V2 b]=some [VY false,VY ((aq c a b).2)]) (VF (a7 c a b f g h i) (by rw[f1]))<|AR VP f5<|AC f6<|AR VP f5<|AC f7<|AN))
     ·exact Vz (DP Tryz.f33 [V5 (a.f3.length:Int),rT,.ret [VY ((aq c a b).1),VY ((aq c a b).2)],.row (VP d),.b true,.row (VP d),.b false] (ALn a.f3 VP<|AD (VH (ae b 0 (IntKind.wrap .i64 ((a.f3.length:Int)-(1:Int)))) e)<|AV (ψ:=fun k=>E.C k 62 [.agg (VK .far q0 c),.agg (VM .far a),V2 b]=some [VY ((aq c a b).1),VY ((aq c a b).2)]) (a7 c a b f g h i)<|AR VP f5<|AC f6<|AR VP f5<|AC f7<|AN))
    ·exact Vz (DP Tryz.f33 [V5 (a.f3.length:Int),rT,.ret [VY ((aq c a b).1),VY ((aq c a b).2)],.row (VP d),.b false] (ALn a.f3 VP<|AD (VH (ae b 0 (IntKind.wrap .i64 ((a.f3.length:Int)-(1:Int)))) e)<|AV (ψ:=fun k=>E.C k 62 [.agg (VK .far q0 c),.agg (VM .far a),V2 b]=some [VY ((aq c a b).1),VY ((aq c a b).2)]) (a7 c a b f g h i)<|AR VP f5<|AC f6<|AN))
  ·exact Vz (DP Tryz.f33 [V5 (a.f3.length:Int),rF] (ALn a.f3 VP<|AD (VH (ae b 0 (IntKind.wrap .i64 ((a.f3.length:Int)-(1:Int)))) e)<|AN))
 |false =>
  apply VC<;>intro e
  ·apply VE;intro f;apply VE;intro g;apply VE;intro h;apply VE;intro i;apply VC<;>intro f8
   ·apply VD;intro d f9;apply VC<;>intro f10
    ·apply VC<;>intro f11
     ·apply VD;intro g1 m;exact Vz (DP Tryz.f33 [V5 (a.f3.length:Int),rT,.ret [VY true,VY ((aq c a b).2)],.row (VP d),.b true,.row (VP d),.b true,.row ((VQ q0) g1)] (ALn a.f3 VP<|AD (VH (ae b 0 (IntKind.wrap .i64 ((a.f3.length:Int)-(1:Int)))) e)<|AV (ψ:=fun k=>E.C k 62 [.agg (VK .far q0 c),.agg (VM .far a),V2 b]=some [VY true,VY ((aq c a b).2)]) (VF (a7 c a b f g h i) (by rw[f8]))<|AR VP f9<|AC f10<|AR VP f9<|AC f11<|AR (VQ q0) m<|AN))
     ·exact Vz (DP Tryz.f33 [V5 (a.f3.length:Int),rT,.ret [VY ((aq c a b).1),VY ((aq c a b).2)],.row (VP d),.b true,.row (VP d),.b false] (ALn a.f3 VP<|AD (VH (ae b 0 (IntKind.wrap .i64 ((a.f3.length:Int)-(1:Int)))) e)<|AV (ψ:=fun k=>E.C k 62 [.agg (VK .far q0 c),.agg (VM .far a),V2 b]=some [VY ((aq c a b).1),VY ((aq c a b).2)]) (a7 c a b f g h i)<|AR VP f9<|AC f10<|AR VP f9<|AC f11<|AN))
    ·exact Vz (DP Tryz.f33 [V5 (a.f3.length:Int),rT,.ret [VY ((aq c a b).1),VY ((aq c a b).2)],.row (VP d),.b false] (ALn a.f3 VP<|AD (VH (ae b 0 (IntKind.wrap .i64 ((a.f3.length:Int)-(1:Int)))) e)<|AV (ψ:=fun k=>E.C k 62 [.agg (VK .far q0 c),.agg (VM .far a),V2 b]=some [VY ((aq c a b).1),VY ((aq c a b).2)]) (a7 c a b f g h i)<|AR VP f9<|AC f10<|AN))
   ·apply VD;intro d f12;apply VC<;>intro f13
    ·apply VC<;>intro f14
     ·exact Vz (DP Tryz.f33 [V5 (a.f3.length:Int),rT,.ret [VY false,VY ((aq c a b).2)],.row (VP d),.b true,.row (VP d),.b true] (ALn a.f3 VP<|AD (VH (ae b 0 (IntKind.wrap .i64 ((a.f3.length:Int)-(1:Int)))) e)<|AV (ψ:=fun k=>E.C k 62 [.agg (VK .far q0 c),.agg (VM .far a),V2 b]=some [VY false,VY ((aq c a b).2)]) (VF (a7 c a b f g h i) (by rw[f8]))<|AR VP f12<|AC f13<|AR VP f12<|AC f14<|AN))
     ·exact Vz (DP Tryz.f33 [V5 (a.f3.length:Int),rT,.ret [VY ((aq c a b).1),VY ((aq c a b).2)],.row (VP d),.b true,.row (VP d),.b false] (ALn a.f3 VP<|AD (VH (ae b 0 (IntKind.wrap .i64 ((a.f3.length:Int)-(1:Int)))) e)<|AV (ψ:=fun k=>E.C k 62 [.agg (VK .far q0 c),.agg (VM .far a),V2 b]=some [VY ((aq c a b).1),VY ((aq c a b).2)]) (a7 c a b f g h i)<|AR VP f12<|AC f13<|AR VP f12<|AC f14<|AN))
    ·exact Vz (DP Tryz.f33 [V5 (a.f3.length:Int),rT,.ret [VY ((aq c a b).1),VY ((aq c a b).2)],.row (VP d),.b false] (ALn a.f3 VP<|AD (VH (ae b 0 (IntKind.wrap .i64 ((a.f3.length:Int)-(1:Int)))) e)<|AV (ψ:=fun k=>E.C k 62 [.agg (VK .far q0 c),.agg (VM .far a),V2 b]=some [VY ((aq c a b).1),VY ((aq c a b).2)]) (a7 c a b f g h i)<|AR VP f12<|AC f13<|AN))
  ·exact Vz (DP Tryz.f33 [V5 (a.f3.length:Int),rF] (ALn a.f3 VP<|AD (VH (ae b 0 (IntKind.wrap .i64 ((a.f3.length:Int)-(1:Int)))) e)<|AN))
noncomputable def vz (a:GDag)(c:GRun)(b:Int)(f:Bool)(e:Int):Option (Bool):=
  match f with
   |true=>(ak c.f3 b).bind fun d=>if ab.sm a then if aH a=true then if c.f3.length=a.f5.length then if 0≤b∧b<(a.f5.length:Int)then cond (d.f0==(0:Int))
    (cond (decide (d.f3≤e))
     (cond ((aN a c b).1)
      (some (true))
      (some (false)))
     (some (false)))
    (some (false))else none else none else none else none
   |false=>(ak c.f3 b).bind fun d=>if ab.sm a then if aH a=true then if c.f3.length=a.f5.length then if 0≤b∧b<(a.f5.length:Int)then cond (d.f0==(0:Int))
    (cond (decide (d.f3≤e))
     (cond ((aN a c b).1)
      ((ak a.f5 b).bind fun g1=>some (!g1.f3))
      (some (false)))
     (some (false)))
    (some (false))else none else none else none else none
theorem QX {q0:Kd}(a:GDag)(b:GRun)(c:Int)(l:Bool)(m:Int):Ans (vz a b c l m) (fun r=>Does E 50 [.agg (VK .far q0 a),.agg (VM .far b),V2 c,V3 l,V2 m] [VY r]):=by
 unfold vz;cases l with
 |true =>
  apply VD;intro d e;apply VE;intro f;apply VE;intro g;apply VE;intro h;apply VE;intro i;apply VC<;>intro f1
  ·apply VC<;>intro f2
   ·apply VC<;>intro j
    ·exact Vz (DP Tryz.f50 [.row (VP d),.ret [VY true,VY ((aN a b c).2)],.b true,.b true] (AR VP e<|AV (ψ:=fun k=>E.C k 79 [.agg (VK .far q0 a),.agg (VM .far b),V2 c,.fni 80 []]=some [VY true,VY ((aN a b c).2)]) (VF (bF a b c f g h i) (by rw[j]))<|AC f1<|AC f2<|AN))
    ·exact Vz (DP Tryz.f50 [.row (VP d),.ret [VY false,VY ((aN a b c).2)],.b true,.b true] (AR VP e<|AV (ψ:=fun k=>E.C k 79 [.agg (VK .far q0 a),.agg (VM .far b),V2 c,.fni 80 []]=some [VY false,VY ((aN a b c).2)]) (VF (bF a b c f g h i) (by rw[j]))<|AC f1<|AC f2<|AN))
   ·exact Vz (DP Tryz.f50 [.row (VP d),.ret [VY ((aN a b c).1),VY ((aN a b c).2)],.b true,.b false] (AR VP e<|AV (ψ:=fun k=>E.C k 79 [.agg (VK .far q0 a),.agg (VM .far b),V2 c,.fni 80 []]=some [VY ((aN a b c).1),VY ((aN a b c).2)]) (bF a b c f g h i)<|AC f1<|AC f2<|AN))
  ·exact Vz (DP Tryz.f50 [.row (VP d),.ret [VY ((aN a b c).1),VY ((aN a b c).2)],.b false] (AR VP e<|AV (ψ:=fun k=>E.C k 79 [.agg (VK .far q0 a),.agg (VM .far b),V2 c,.fni 80 []]=some [VY ((aN a b c).1),VY ((aN a b c).2)]) (bF a b c f g h i)<|AC f1<|AN))
 |false =>
  apply VD;intro d e;apply VE;intro f;apply VE;intro g;apply VE;intro h;apply VE;intro i;apply VC<;>intro f3
  ·apply VC<;>intro f4
   ·apply VC<;>intro j
    ·apply VD;intro g1 n;exact Vz (DP Tryz.f50 [.row (VP d),.ret [VY true,VY ((aN a b c).2)],.b true,.b true,.row ((VQ q0) g1)] (AR VP e<|AV (ψ:=fun k=>E.C k 79 [.agg (VK .far q0 a),.agg (VM .far b),V2 c,.fni 80 []]=some [VY true,VY ((aN a b c).2)]) (VF (bF a b c f g h i) (by rw[j]))<|AC f3<|AC f4<|AR (VQ q0) n<|AN))
    ·exact Vz (DP Tryz.f50 [.row (VP d),.ret [VY false,VY ((aN a b c).2)],.b true,.b true] (AR VP e<|AV (ψ:=fun k=>E.C k 79 [.agg (VK .far q0 a),.agg (VM .far b),V2 c,.fni 80 []]=some [VY false,VY ((aN a b c).2)]) (VF (bF a b c f g h i) (by rw[j]))<|AC f3<|AC f4<|AN))
   ·exact Vz (DP Tryz.f50 [.row (VP d),.ret [VY ((aN a b c).1),VY ((aN a b c).2)],.b true,.b false] (AR VP e<|AV (ψ:=fun k=>E.C k 79 [.agg (VK .far q0 a),.agg (VM .far b),V2 c,.fni 80 []]=some [VY ((aN a b c).1),VY ((aN a b c).2)]) (bF a b c f g h i)<|AC f3<|AC f4<|AN))
  ·exact Vz (DP Tryz.f50 [.row (VP d),.ret [VY ((aN a b c).1),VY ((aN a b c).2)],.b false] (AR VP e<|AV (ψ:=fun k=>E.C k 79 [.agg (VK .far q0 a),.agg (VM .far b),V2 c,.fni 80 []]=some [VY ((aN a b c).1),VY ((aN a b c).2)]) (bF a b c f g h i)<|AC f3<|AN))
noncomputable def jp (d:GDag)(r:GRun)(i:Int)(past:Bool)(a:Int):Bool:=match ak r.f3 i,ak d.f5 i with
 |some x,some t=>(x.f0==0)&&(decide (x.f3≤a)&&((aN d r i).1&&(past || !t.f3)))
 |_,_=>false
noncomputable def uh (d:GDag)(r:GRun)(i:Int)(past:Bool)(a:Int):Bool:=xb d i&&jp d r i past a
theorem TC (d:GDag)(r:GRun)(i:Int)(past:Bool)(a:Int)(h:ab.sm d)(hd:aH d=true)(b:r.f3.length=d.f5.length)(hi:0≤i∧i<(d.f5.length:Int)):vz d r i past a=some (jp d r i past a):=by obtain⟨t,c,_⟩:=cA hi;obtain⟨x,e,_⟩:=cA (l:=r.f3) (k:=i) (by omega);unfold vz jp;cases past<;>simp only[c,e,V9,Wa h,Wa hd,Wa b,Wa hi]<;>cases x.f0==0<;>cases decide (x.f3≤a)<;>cases(aN d r i).1<;>cases t.f3<;>rfl
theorem TD (d:GDag)(r:GRun)(i:Int)(past:Bool)(a:Int)(h:ab.sm d)(hd:aH d=true)(b:r.f3.length=d.f5.length):qS d r i past a=some (uh d r i past a):=by
 have e:ag i 0 (IntKind.wrap .i64 ((r.f3.length:Int)-1))=xb d i:=by rw[b];rfl
 have c:(aq d r i).1=(aN d r i).1:=rfl;unfold qS uh;cases q:xb d i with
 |false=>cases past<;>simp only[e,q]<;>rfl
 |true =>have hi:=Q4 q h;obtain⟨t,f,_⟩:=cA hi;obtain⟨x,g,_⟩:=cA (l:=r.f3) (k:=i) (by omega);unfold jp;cases past<;>simp only[e,q,c,f,g,V9,Wn,Wa h,Wa hd,Wa b,Wa hi]<;>cases x.f0==0<;>cases decide (x.f3≤a)<;>cases(aN d r i).1<;>cases t.f3<;>rfl
theorem um {q0:Kd}(a:GDag)(b:GRun)(c:Int)(d:Bool)(e:Int)(h:ab.sm a)(hd:aH a=true)(f:b.f3.length=a.f5.length):Does E 33 [.agg (VK .far q0 a),.agg (VM .far b),V2 c,V3 d,V2 e] [VY (uh a b c d e)]:=by exact Lk a b c d e _ (TD a b c d e h hd f)
theorem zH {q0:Kd}(a:GDag)(c:GRun)(b:Int)(d:Bool)(e:Int)(h:ab.sm a)(hd:aH a=true)(f:c.f3.length=a.f5.length)(hi:0≤b∧b<(a.f5.length:Int)):Does E 50 [.agg (VK .far q0 a),.agg (VM .far c),V2 b,V3 d,V2 e] [VY (jp a c b d e)]:=by exact QX a c b d e _ (TC a c b d e h hd f hi)
noncomputable def nD (b:GBoard)(a d:Int):Option (Bool):=cond (ag a 0 (IntKind.wrap .i64 ((b.f2.length:Int)-(1:Int)))) (cond (a==(0:Int)) (some (true)) ((ak b.f2 (IntKind.wrap .i64 (a-(1:Int)))).bind fun c=>(ak b.f2 a).bind fun g1=>cond (!(c.f0.toList==g1.f0.toList)) (some (true)) (cond (ag d 0 (IntKind.wrap .i64 ((c.f3.length:Int)-(1:Int)))) ((ak c.f3 d).bind fun e=>some (e.f0==(2:Int))) (some (false))))) (some (false))
theorem PR {q0:Kd}(a:GBoard)(c f:Int):Ans (nD a c f) (fun r=>Does E 34 [.agg (VI .far q0 a),V2 c,V2 f] [VY r]):=by
 unfold nD;apply VC<;>intro d
 ·apply VC<;>intro g
  ·exact Vz (DP Tryz.f34 [V5 (a.f2.length:Int),rT,.b true] (ALn a.f2 (VM q0)<|AD (VH (ae c 0 (IntKind.wrap .i64 ((a.f2.length:Int)-(1:Int)))) d)<|AC g<|AN))
  ·apply VD;intro b e;apply VD;intro g1 h;apply VC<;>intro i
   ·exact Vz (DP Tryz.f34 [V5 (a.f2.length:Int),rT,.b false,.row ((VM q0) b),.row ((VM q0) g1),.b true] (ALn a.f2 (VM q0)<|AD (VH (ae c 0 (IntKind.wrap .i64 ((a.f2.length:Int)-(1:Int)))) d)<|AC g<|AR (VM q0) e<|AR (VM q0) h<|AC i<|AN))
   ·apply VC<;>intro j
    ·apply VD;intro k l;exact Vz (DP Tryz.f34 [V5 (a.f2.length:Int),rT,.b false,.row ((VM q0) b),.row ((VM q0) g1),.b false,.row ((VM q0) b),V5 (b.f3.length:Int),rT,.row (VP k)] (ALn a.f2 (VM q0)<|AD (VH (ae c 0 (IntKind.wrap .i64 ((a.f2.length:Int)-(1:Int)))) d)<|AC g<|AR (VM q0) e<|AR (VM q0) h<|AC i<|AR (VM q0) e<|ALn b.f3 VP<|AD (VH (ae f 0 (IntKind.wrap .i64 ((b.f3.length:Int)-(1:Int)))) j)<|AR VP l<|AN))
    ·exact Vz (DP Tryz.f34 [V5 (a.f2.length:Int),rT,.b false,.row ((VM q0) b),.row ((VM q0) g1),.b false,.row ((VM q0) b),V5 (b.f3.length:Int),rF] (ALn a.f2 (VM q0)<|AD (VH (ae c 0 (IntKind.wrap .i64 ((a.f2.length:Int)-(1:Int)))) d)<|AC g<|AR (VM q0) e<|AR (VM q0) h<|AC i<|AR (VM q0) e<|ALn b.f3 VP<|AD (VH (ae f 0 (IntKind.wrap .i64 ((b.f3.length:Int)-(1:Int)))) j)<|AN))
 ·exact Vz (DP Tryz.f34 [V5 (a.f2.length:Int),rF] (ALn a.f2 (VM q0)<|AD (VH (ae c 0 (IntKind.wrap .i64 ((a.f2.length:Int)-(1:Int)))) d)<|AN))
noncomputable def tJ (b:GBoard)(a d:Int):Option (Bool):=cond (ag a 0 (IntKind.wrap .i64 ((b.f2.length:Int)-(1:Int)))) (cond (a==(0:Int)) (some (true)) ((ak b.f2 (IntKind.wrap .i64 (a-(1:Int)))).bind fun c=>(ak b.f2 a).bind fun g1=>cond (!(c.f0.toList==g1.f0.toList)) (some (true)) (cond (ag d 0 (IntKind.wrap .i64 ((c.f3.length:Int)-(1:Int)))) ((ak c.f3 d).bind fun e=>some (e.f0==(2:Int))) (some (false))))) (some (false))
theorem O1 {q0:Kd}(a:GBoard)(c f:Int):Ans (tJ a c f) (fun r=>Does E 51 [.agg (VI .far q0 a),V2 c,V2 f] [VY r]):=by
 unfold tJ;apply VC<;>intro d
 ·apply VC<;>intro g
  ·exact Vz (DP Tryz.f51 [V5 (a.f2.length:Int),rT,.b true] (ALn a.f2 (VM q0)<|AD (VH (ao c 0 (IntKind.wrap .i64 ((a.f2.length:Int)-(1:Int)))) d)<|AC g<|AN))
  ·apply VD;intro b e;apply VD;intro g1 h;apply VC<;>intro i
   ·exact Vz (DP Tryz.f51 [V5 (a.f2.length:Int),rT,.b false,.row ((VM q0) b),.row ((VM q0) g1),.b true] (ALn a.f2 (VM q0)<|AD (VH (ao c 0 (IntKind.wrap .i64 ((a.f2.length:Int)-(1:Int)))) d)<|AC g<|AR (VM q0) e<|AR (VM q0) h<|AC i<|AN))
   ·apply VC<;>intro j
    ·apply VD;intro k l;exact Vz (DP Tryz.f51 [V5 (a.f2.length:Int),rT,.b false,.row ((VM q0) b),.row ((VM q0) g1),.b false,.row ((VM q0) b),V5 (b.f3.length:Int),rT,.row (VP k)] (ALn a.f2 (VM q0)<|AD (VH (ao c 0 (IntKind.wrap .i64 ((a.f2.length:Int)-(1:Int)))) d)<|AC g<|AR (VM q0) e<|AR (VM q0) h<|AC i<|AR (VM q0) e<|ALn b.f3 VP<|AD (VH (ao f 0 (IntKind.wrap .i64 ((b.f3.length:Int)-(1:Int)))) j)<|AR VP l<|AN))
    ·exact Vz (DP Tryz.f51 [V5 (a.f2.length:Int),rT,.b false,.row ((VM q0) b),.row ((VM q0) g1),.b false,.row ((VM q0) b),V5 (b.f3.length:Int),rF] (ALn a.f2 (VM q0)<|AD (VH (ao c 0 (IntKind.wrap .i64 ((a.f2.length:Int)-(1:Int)))) d)<|AC g<|AR (VM q0) e<|AR (VM q0) h<|AC i<|AR (VM q0) e<|ALn b.f3 VP<|AD (VH (ao f 0 (IntKind.wrap .i64 ((b.f3.length:Int)-(1:Int)))) j)<|AN))
 ·exact Vz (DP Tryz.f51 [V5 (a.f2.length:Int),rF] (ALn a.f2 (VM q0)<|AD (VH (ao c 0 (IntKind.wrap .i64 ((a.f2.length:Int)-(1:Int)))) d)<|AN))
noncomputable def bS (b:GBoard)(k i:Int):Bool:=(nD b k i).getD false
theorem N4 (b:GBoard)(k i:Int)(h:ab.sm b):nD b k i=some (bS b k i)∧tJ b k i=some (bS b k i):=by
 have e:tJ b k i=nD b k i:=rfl;rw[e];refine⟨?_,?_⟩ <;>
 ·refine Tot.getD ?_ _;unfold nD;by_cases q:ag k 0 (IntKind.wrap .i64 ((b.f2.length:Int)-1))=true
  ·have d:=we q h.2.2.1;have n:=h.2.2.1;rw[q,Wn];by_cases c:k=0
   ·subst c;exact Tot.some _
   ·rw[show(k==(0:Int))=false from W5.2 c,Wu];have f:IntKind.wrap .i64 (k-1)=k-1:=du _ (by omega) (by omega);obtain⟨x,g,j⟩:=cA (l:=b.f2) (k:=k-1) (by omega);obtain⟨y,m,_⟩:=cA d;rw[f,g,m];simp only[V9];refine Tot.cond (Tot.some _) ?_;by_cases a:ag i 0 (IntKind.wrap .i64 ((x.f3.length:Int)-1))=true
    ·obtain⟨z,hz,_⟩:=cA (we a (h.2.2.2 x j).2.2.1);rw[a,hz];exact Tot.some _
    ·rw[X7]at a;rw[a];exact Tot.some _
  ·rw[X7]at q;rw[q];exact Tot.some _
theorem xF {q0:Kd}(a:GBoard)(b:Int)(c:Int)(h:ab.sm a):Does E 34 [.agg (VI .far q0 a),V2 b,V2 c] [VY (bS a b c)]:=by exact PR a b c _ (N4 a b c h).1
theorem xE {q0:Kd}(a:GBoard)(b:Int)(c:Int)(h:ab.sm a):Does E 51 [.agg (VI .far q0 a),V2 b,V2 c] [VY (bS a b c)]:=by exact O1 a b c _ (N4 a b c h).2
inductive Cb where|ret (v4:Int) (v5:Bool)|x0
def di (q0:Kd)(v1:Int)(v2_0:List GSession)(v2_1:List GPlan)(v2_2:List GRun)(v2_3 v2_4:Int)(v6_0:Y9)(v6_1 v6_2 v6_3:Int)(v6_4:List GState)(a b:Y9)(c d:Int)(e:Bool)(f:List GTask)(g:List Int)(h i:Int):US:=stL 88 [(1,V2 v1),(2,.box () [V8 3 (v2_0.map VN),V8 9 (v2_1.map (VL q0 q0)),V8 5 (v2_2.map (VM q0)),tI v2_3,tI v2_4]),(6,.box () [tS v6_0,tI v6_1,tI v6_2,tI v6_3,V8 4 (v6_4.map VP)]),(8,.box () [tS a,tS b,tI c,tI d,tB e,V8 5 (f.map (VQ q0))]),(56,.one (V7 1 (g.map etI))),(57,V2 h),(58,V2 i)]
def nj (q0:Kd)(a:Int)(b:Bool):US:=stL 88 [(4,V2 a),(5,V3 b)]
def oE (q0:Kd)  : US:=stL 88 []
abbrev iX:US→Exit→US→Prop:=Round E 18 (an Tryz.f18 0)
def Mu {q0:Kd}(v1:Int)(v2_0:List GSession)(v2_1:List GPlan)(v2_2:List GRun)(v2_3 v2_4:Int)(v6_0:Y9)(v6_1 v6_2 v6_3:Int)(v6_4:List GState)(a b:Y9)(c d:Int)(e:Bool)(f:List GTask)(g:List Int)(h i:Int):Cb→Prop| .ret j k=>Loops E 18 (an Tryz.f18 0) (di q0 v1 v2_0 v2_1 v2_2 v2_3 v2_4 v6_0 v6_1 v6_2 v6_3 v6_4 a b c d e f g h i) .ret (nj q0 j k)| .x0=>Loops E 18 (an Tryz.f18 0) (di q0 v1 v2_0 v2_1 v2_2 v2_3 v2_4 v6_0 v6_1 v6_2 v6_3 v6_4 a b c d e f g h i) (.exit 0) (oE q0)
end
end Go.Proofs.YtjikhkndmohepaaGreatDoor.Am
