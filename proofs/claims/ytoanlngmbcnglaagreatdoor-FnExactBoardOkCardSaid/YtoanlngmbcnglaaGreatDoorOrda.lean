/- Right sessions and plans, a part. -/
import Derived.Test.YtoanlngmbcnglaaGreatDoorKnown
namespace Go.Proofs.YtoanlngmbcnglaaGreatDoor.Am
open Go
set_option linter.unusedVariables false
set_option linter.unusedSimpArgs false
section
open Go.Proofs Classical
set_option maxRecDepth 100000
noncomputable def Bb (x0:Int):Option (Bool):=some (ae x0 0 1000000)
theorem La (x0:Int):Ans (Bb x0) (fun r=>Does E 44 [T5 x0] [T3 r]):=by unfold Bb;exact TT (DP Tryz.f44 [.ret [T3 (ae x0 0 1000000)]] (AD (an x0 0 (1000000:Int))<|AN))
def Eq (x:Int):Bool:=ae x 0 1000000
theorem gl (x0:Int):Does E 44 [T5 x0] [T3 (Eq x0)]:=by exact La x0 _ rfl
noncomputable def zp (x0:Int):Option (Bool):=some (ae x0 0 68374079)
theorem IL (x0:Int):Ans (zp x0) (fun r=>Does E 24 [T5 x0] [T3 r]):=by unfold zp;exact TT (DP Tryz.f24 [.ret [T3 (ae x0 0 68374079)]] (AD (an x0 0 (68374079:Int))<|AN))
def kO (x:Int):Bool:=ae x 0 68374079
theorem tn (x0:Int):Does E 24 [T5 x0] [T3 (kO x0)]:=by exact IL x0 _ rfl
inductive uf where|ret (v2:Bool)|x0
def aZ (v0:List GSession)(v3:Int):US:=stL 59 [(0,.one (.s .far () 3 (v0.map GSession.t))),(3,T5 v3)]
def cd (a:Bool):US:=stL 59 [(2,T6 a)]
def ml (v0:List GSession):US:=stL 59 [(0,.one (.s .far () 3 (v0.map GSession.t)))]
abbrev bU:US→Exit→US→Prop:=Round E 12 (am Tryz.f12 0)
def Cd (v0:List GSession)(v3:Int):uf→Prop| .ret a=>Loops E 12 (am Tryz.f12 0) (aZ v0 v3) .ret (cd a)| .x0=>Loops E 12 (am Tryz.f12 0) (aZ v0 v3) (.exit 0) (ml v0)
noncomputable def cJ (v0:List GSession):List GSession→Nat→Option uf|[],i=>some (.x0)|hd::rest,i=>cond (ae hd.f0 1 1000000) (cond (decide ((i:Int)>(0:Int))) ((ak v0 (IntKind.wrap .i64 ((i:Int)-(1:Int)))).bind fun g1=>cond (decide (g1.f0≥hd.f0)) (some (.ret false)) (cond (ae hd.f1 0 1000000) (cond (decide ((hd.f2.size:Int)>(60:Int))) (some (.ret false)) (cond (hd.f1==(0:Int)) (cond (!(hd.f2.toList==ByteArray.empty.toList)) (some (.ret false)) (cJ v0 rest (i+1))) (cJ v0 rest (i+1)))) (some (.ret false)))) (cond (ae hd.f1 0 1000000) (cond (decide ((hd.f2.size:Int)>(60:Int))) (some (.ret false)) (cond (hd.f1==(0:Int)) (cond (!(hd.f2.toList==ByteArray.empty.toList)) (some (.ret false)) (cJ v0 rest (i+1))) (cJ v0 rest (i+1)))) (some (.ret false)))) (some (.ret false))
theorem Cc (v0:List GSession)(rest:List GSession):∀(i:Nat) ,(v0).drop i=rest→v0.length≤9223372036854775807→Ans (cJ v0 rest i) (Cd v0 (i:Int)):=by
 induction rest with
 |nil =>intro i l m;have hb:=aI l;unfold cJ;exact TT (TV (show bU (aZ v0 (i:Int)) (.exit 0) (ml v0)from RP [T8 (v0.length:Int),.b false] (ALn v0 GSession.t<|AC hb<|AN)) (by intro h;cases h))
 |cons hd rest n =>
  intro i l m;have hb:=aC l;have o:=aD l m;have f:=aq l;have a:=aB l;unfold cJ;apply TW<;>intro b
  ·apply TW<;>intro d
   ·refine TX (fun g1 c => ?_);apply TW<;>intro e
    ·exact TT (TV (show bU (aZ v0 (i:Int)) .ret (cd false)from RP [T8 (v0.length:Int),.b true,.row (GSession.t hd),rT,.b true,.row (GSession.t g1),.b true] (ALn v0 GSession.t<|AC hb<|AR GSession.t a<|AD (T1 (ag hd.f0 1 1000000) b)<|AC d<|AR GSession.t c<|AC e<|AN)) (by intro h;cases h))
    ·apply TW<;>intro g
     ·apply TW<;>intro j
      ·exact TT (TV (show bU (aZ v0 (i:Int)) .ret (cd false)from RP [T8 (v0.length:Int),.b true,.row (GSession.t hd),rT,.b true,.row (GSession.t g1),.b false,rT,.b true] (ALn v0 GSession.t<|AC hb<|AR GSession.t a<|AD (T1 (ag hd.f0 1 1000000) b)<|AC d<|AR GSession.t c<|AC e<|AD (T1 (ag hd.f1 0 1000000) g)<|AC j<|AN)) (by intro h;cases h))
      ·apply TW<;>intro p
       ·apply TW<;>intro q
        ·exact TT (TV (show bU (aZ v0 (i:Int)) .ret (cd false)from RP [T8 (v0.length:Int),.b true,.row (GSession.t hd),rT,.b true,.row (GSession.t g1),.b false,rT,.b false,.b true,.b true] (ALn v0 GSession.t<|AC hb<|AR GSession.t a<|AD (T1 (ag hd.f0 1 1000000) b)<|AC d<|AR GSession.t c<|AC e<|AD (T1 (ag hd.f1 0 1000000) g)<|AC j<|AC p<|AC q<|AN)) (by intro h;cases h))
        ·exact(n (i+1) f m).mono fun y k=>by have r:bU (aZ v0 (i:Int)) .normal (aZ v0 (inc (i:Int))):=RP [T8 (v0.length:Int),.b true,.row (GSession.t hd),rT,.b true,.row (GSession.t g1),.b false,rT,.b false,.b true,.b false] (ALn v0 GSession.t<|AC hb<|AR GSession.t a<|AD (T1 (ag hd.f0 1 1000000) b)<|AC d<|AR GSession.t c<|AC e<|AD (T1 (ag hd.f1 0 1000000) g)<|AC j<|AC p<|AC q<|AN);rw[o]at r;cases y<;>exact TU r k
       ·exact(n (i+1) f m).mono fun y k=>by have r:bU (aZ v0 (i:Int)) .normal (aZ v0 (inc (i:Int))):=RP [T8 (v0.length:Int),.b true,.row (GSession.t hd),rT,.b true,.row (GSession.t g1),.b false,rT,.b false,.b false] (ALn v0 GSession.t<|AC hb<|AR GSession.t a<|AD (T1 (ag hd.f0 1 1000000) b)<|AC d<|AR GSession.t c<|AC e<|AD (T1 (ag hd.f1 0 1000000) g)<|AC j<|AC p<|AN);rw[o]at r;cases y<;>exact TU r k
     ·exact TT (TV (show bU (aZ v0 (i:Int)) .ret (cd false)from RP [T8 (v0.length:Int),.b true,.row (GSession.t hd),rT,.b true,.row (GSession.t g1),.b false,rF] (ALn v0 GSession.t<|AC hb<|AR GSession.t a<|AD (T1 (ag hd.f0 1 1000000) b)<|AC d<|AR GSession.t c<|AC e<|AD (T1 (ag hd.f1 0 1000000) g)<|AN)) (by intro h;cases h))
   ·apply TW<;>intro c
    ·apply TW<;>intro e
     ·exact TT (TV (show bU (aZ v0 (i:Int)) .ret (cd false)from RP [T8 (v0.length:Int),.b true,.row (GSession.t hd),rT,.b false,rT,.b true] (ALn v0 GSession.t<|AC hb<|AR GSession.t a<|AD (T1 (ag hd.f0 1 1000000) b)<|AC d<|AD (T1 (ag hd.f1 0 1000000) c)<|AC e<|AN)) (by intro h;cases h))
     ·apply TW<;>intro g
      ·apply TW<;>intro j
       ·exact TT (TV (show bU (aZ v0 (i:Int)) .ret (cd false)from RP [T8 (v0.length:Int),.b true,.row (GSession.t hd),rT,.b false,rT,.b false,.b true,.b true] (ALn v0 GSession.t<|AC hb<|AR GSession.t a<|AD (T1 (ag hd.f0 1 1000000) b)<|AC d<|AD (T1 (ag hd.f1 0 1000000) c)<|AC e<|AC g<|AC j<|AN)) (by intro h;cases h))
       ·exact(n (i+1) f m).mono fun y k=>by have r:bU (aZ v0 (i:Int)) .normal (aZ v0 (inc (i:Int))):=RP [T8 (v0.length:Int),.b true,.row (GSession.t hd),rT,.b false,rT,.b false,.b true,.b false] (ALn v0 GSession.t<|AC hb<|AR GSession.t a<|AD (T1 (ag hd.f0 1 1000000) b)<|AC d<|AD (T1 (ag hd.f1 0 1000000) c)<|AC e<|AC g<|AC j<|AN);rw[o]at r;cases y<;>exact TU r k
      ·exact(n (i+1) f m).mono fun y k=>by have r:bU (aZ v0 (i:Int)) .normal (aZ v0 (inc (i:Int))):=RP [T8 (v0.length:Int),.b true,.row (GSession.t hd),rT,.b false,rT,.b false,.b false] (ALn v0 GSession.t<|AC hb<|AR GSession.t a<|AD (T1 (ag hd.f0 1 1000000) b)<|AC d<|AD (T1 (ag hd.f1 0 1000000) c)<|AC e<|AC g<|AN);rw[o]at r;cases y<;>exact TU r k
    ·exact TT (TV (show bU (aZ v0 (i:Int)) .ret (cd false)from RP [T8 (v0.length:Int),.b true,.row (GSession.t hd),rT,.b false,rF] (ALn v0 GSession.t<|AC hb<|AR GSession.t a<|AD (T1 (ag hd.f0 1 1000000) b)<|AC d<|AD (T1 (ag hd.f1 0 1000000) c)<|AN)) (by intro h;cases h))
  ·exact TT (TV (show bU (aZ v0 (i:Int)) .ret (cd false)from RP [T8 (v0.length:Int),.b true,.row (GSession.t hd),rF] (ALn v0 GSession.t<|AC hb<|AR GSession.t a<|AD (T1 (ag hd.f0 1 1000000) b)<|AN)) (by intro h;cases h))
noncomputable def lQ (x0:List GSession):Option (Bool):=
  if x0.length≤9223372036854775807 then(cJ x0 x0 0).bind fun y=>match y with
   | .ret a=>(some (a))
   | .x0=>(some (decide ((x0.length:Int)≤(3:Int))))else none
theorem DM (x0:List GSession):Ans (lQ x0) (fun r=>Does E 12 [.one (.s .far () 3 (x0.map GSession.t))] [T3 r]):=by
 unfold lQ;refine TY (fun c => ?_);refine TX (fun y b => ?_);replace b:=Cc x0 x0 0 rfl c y b;cases y with
 |ret a =>have d:=b;exact TT (DP Tryz.f12 [.lp .ret (cd a)] (AL d<|AN))
 |x0 =>have d:=b;exact TT (DP Tryz.f12 [.lp (.exit 0) (ml x0),T8 (x0.length:Int)] (AL d<|ALn x0 GSession.t<|AN))
inductive uH where|ret (v2:Bool)|x0
def bu (v0 v5:List GSession)(v6 v7:Int):US:=stL 55 [(0,.one (.s .far () 3 (v0.map GSession.t))),(5,.one (.s .far () 3 (v5.map GSession.t))),(6,T5 v6),(7,T5 v7)]
def c8 (a:Bool):US:=stL 55 [(2,T6 a)]
def nc (v0:List GSession):US:=stL 55 [(0,.one (.s .far () 3 (v0.map GSession.t)))]
abbrev cB:US→Exit→US→Prop:=Round E 20 (am Tryz.f20 0)
def Da (v0 v5:List GSession)(v6 v7:Int):uH→Prop| .ret a=>Loops E 20 (am Tryz.f20 0) (bu v0 v5 v6 v7) .ret (c8 a)| .x0=>Loops E 20 (am Tryz.f20 0) (bu v0 v5 v6 v7) (.exit 0) (nc v0)
noncomputable def cX (v0:List GSession):List GSession→Nat→Option uH|[],i=>some (.x0)|hd::rest,i=>cond (ae hd.f0 1 1000000) (cond (Eq hd.f1) (cond (decide ((hd.f2.size:Int)>(60:Int))) (some (.ret false)) (cond (hd.f1==(0:Int)) (cond (!(hd.f2.toList==ByteArray.empty.toList)) (some (.ret false)) (cond (decide ((i:Int)>(0:Int))) ((ak v0 (IntKind.wrap .i64 ((i:Int)-(1:Int)))).bind fun g1=>cond (decide (hd.f0≤g1.f0)) (some (.ret false)) (cX v0 rest (i+1))) (cX v0 rest (i+1)))) (cond (decide ((i:Int)>(0:Int))) ((ak v0 (IntKind.wrap .i64 ((i:Int)-(1:Int)))).bind fun g1=>cond (decide (hd.f0≤g1.f0)) (some (.ret false)) (cX v0 rest (i+1))) (cX v0 rest (i+1))))) (some (.ret false))) (some (.ret false))
theorem C9 (v0 v5:List GSession)(rest:List GSession):∀(i:Nat) ,(v5).drop i=rest→v5.length≤9223372036854775807→Ans (cX v0 rest i) (Da v0 v5 (v5.length:Int) (i:Int)):=by
 induction rest with
 |nil =>intro i k l;have hb:=aI k;unfold cX;exact TT (TV (show cB (bu v0 v5 (v5.length:Int) (i:Int)) (.exit 0) (nc v0)from RP [.b false] (AC hb<|AN)) (by intro h;cases h))
 |cons hd rest o =>
  intro i k l;have hb:=aC k;have p:=aD k l;have c:=aq k;have a:=aB k;unfold cX;apply TW<;>intro b
  ·apply TW<;>intro d
   ·apply TW<;>intro e
    ·exact TT (TV (show cB (bu v0 v5 (v5.length:Int) (i:Int)) .ret (c8 false)from RP [.b true,.row (GSession.t hd),rT,rT,.b true] (AC hb<|AR GSession.t a<|AD (T1 (an hd.f0 1 1000000) b)<|AD (T1 (gl hd.f1) d)<|AC e<|AN)) (by intro h;cases h))
    ·apply TW<;>intro g
     ·apply TW<;>intro f
      ·exact TT (TV (show cB (bu v0 v5 (v5.length:Int) (i:Int)) .ret (c8 false)from RP [.b true,.row (GSession.t hd),rT,rT,.b false,.b true,.b true] (AC hb<|AR GSession.t a<|AD (T1 (an hd.f0 1 1000000) b)<|AD (T1 (gl hd.f1) d)<|AC e<|AC g<|AC f<|AN)) (by intro h;cases h))
      ·apply TW<;>intro m
       ·refine TX (fun g1 n => ?_);apply TW<;>intro q
        ·exact TT (TV (show cB (bu v0 v5 (v5.length:Int) (i:Int)) .ret (c8 false)from RP [.b true,.row (GSession.t hd),rT,rT,.b false,.b true,.b false,.b true,.row (GSession.t g1),.b true] (AC hb<|AR GSession.t a<|AD (T1 (an hd.f0 1 1000000) b)<|AD (T1 (gl hd.f1) d)<|AC e<|AC g<|AC f<|AC m<|AR GSession.t n<|AC q<|AN)) (by intro h;cases h))
        ·exact(o (i+1) c l).mono fun y j=>by have r:cB (bu v0 v5 (v5.length:Int) (i:Int)) .normal (bu v0 v5 (v5.length:Int) (inc (i:Int))):=RP [.b true,.row (GSession.t hd),rT,rT,.b false,.b true,.b false,.b true,.row (GSession.t g1),.b false] (AC hb<|AR GSession.t a<|AD (T1 (an hd.f0 1 1000000) b)<|AD (T1 (gl hd.f1) d)<|AC e<|AC g<|AC f<|AC m<|AR GSession.t n<|AC q<|AN);rw[p]at r;cases y<;>exact TU r j
       ·exact(o (i+1) c l).mono fun y j=>by have r:cB (bu v0 v5 (v5.length:Int) (i:Int)) .normal (bu v0 v5 (v5.length:Int) (inc (i:Int))):=RP [.b true,.row (GSession.t hd),rT,rT,.b false,.b true,.b false,.b false] (AC hb<|AR GSession.t a<|AD (T1 (an hd.f0 1 1000000) b)<|AD (T1 (gl hd.f1) d)<|AC e<|AC g<|AC f<|AC m<|AN);rw[p]at r;cases y<;>exact TU r j
     ·apply TW<;>intro f
      ·refine TX (fun g1 m => ?_);apply TW<;>intro n
       ·exact TT (TV (show cB (bu v0 v5 (v5.length:Int) (i:Int)) .ret (c8 false)from RP [.b true,.row (GSession.t hd),rT,rT,.b false,.b false,.b true,.row (GSession.t g1),.b true] (AC hb<|AR GSession.t a<|AD (T1 (an hd.f0 1 1000000) b)<|AD (T1 (gl hd.f1) d)<|AC e<|AC g<|AC f<|AR GSession.t m<|AC n<|AN)) (by intro h;cases h))
       ·exact(o (i+1) c l).mono fun y j=>by have r:cB (bu v0 v5 (v5.length:Int) (i:Int)) .normal (bu v0 v5 (v5.length:Int) (inc (i:Int))):=RP [.b true,.row (GSession.t hd),rT,rT,.b false,.b false,.b true,.row (GSession.t g1),.b false] (AC hb<|AR GSession.t a<|AD (T1 (an hd.f0 1 1000000) b)<|AD (T1 (gl hd.f1) d)<|AC e<|AC g<|AC f<|AR GSession.t m<|AC n<|AN);rw[p]at r;cases y<;>exact TU r j
      ·exact(o (i+1) c l).mono fun y j=>by have r:cB (bu v0 v5 (v5.length:Int) (i:Int)) .normal (bu v0 v5 (v5.length:Int) (inc (i:Int))):=RP [.b true,.row (GSession.t hd),rT,rT,.b false,.b false,.b false] (AC hb<|AR GSession.t a<|AD (T1 (an hd.f0 1 1000000) b)<|AD (T1 (gl hd.f1) d)<|AC e<|AC g<|AC f<|AN);rw[p]at r;cases y<;>exact TU r j
   ·exact TT (TV (show cB (bu v0 v5 (v5.length:Int) (i:Int)) .ret (c8 false)from RP [.b true,.row (GSession.t hd),rT,rF] (AC hb<|AR GSession.t a<|AD (T1 (an hd.f0 1 1000000) b)<|AD (T1 (gl hd.f1) d)<|AN)) (by intro h;cases h))
  ·exact TT (TV (show cB (bu v0 v5 (v5.length:Int) (i:Int)) .ret (c8 false)from RP [.b true,.row (GSession.t hd),rF] (AC hb<|AR GSession.t a<|AD (T1 (an hd.f0 1 1000000) b)<|AN)) (by intro h;cases h))
noncomputable def mE (x0:List GSession):Option (Bool):=
  if x0.length≤9223372036854775807 then(cX x0 x0 0).bind fun y=>match y with
   | .ret a=>(some (a))
   | .x0=>(some (decide ((x0.length:Int)≤(3:Int))))else none
theorem Ep (x0:List GSession):Ans (mE x0) (fun r=>Does E 20 [.one (.s .far () 3 (x0.map GSession.t))] [T3 r]):=by
 unfold mE;refine TY (fun c => ?_);refine TX (fun y b => ?_);replace b:=C9 x0 x0 x0 0 rfl c y b;cases y with
 |ret a =>have d:=b;exact TT (DP Tryz.f20 [T8 (x0.length:Int),.lp .ret (c8 a)] (ALn x0 GSession.t<|AL d<|AN))
 |x0 =>have d:=b;exact TT (DP Tryz.f20 [T8 (x0.length:Int),.lp (.exit 0) (nc x0),T8 (x0.length:Int)] (ALn x0 GSession.t<|AL d<|ALn x0 GSession.t<|AN))
def ga {α:Type}(ay:List α)(i:Nat):Option α:=if i=0 then none else ay[i-1]?
theorem vx {α:Type}{ay:List α}{x:α}{rest:List α}{i:Nat}(h:ay.drop i=x::rest):ga ay (i+1)=some x:=by unfold ga;rw[Un (by omega),Nat.add_sub_cancel];have:=aB h;rw[ct]at this;exact this
theorem xt {α:Type}{ay:List α}{x:α}{rest:List α}{i:Nat}(h:ay.drop i=x::rest)(hi:0<i)(b:ay.length≤1050000):∃y,ga ay i=some y∧ak ay (IntKind.wrap .i64 ((i:Int)-1))=some y:=by
 have a:=l3 h;refine⟨ay[i-1],?_,?_⟩
 ·unfold ga;rw[Un (by omega),Ug (by omega)]
 ·rw[em _ (by omega) (by omega),show((i:Int)-1)=((i-1:Nat):Int) by omega,ct,Ug (by omega)]
def P6 (x:GSession):Bool:=ae x.f0 1 1000000&&(ae x.f1 0 1000000&&(!decide ((x.f2.size:Int)>60) && !((x.f1==0) && !(x.f2.toList==ByteArray.empty.toList))))
def qO:Option GSession→List GSession→Bool
 |_,[]=>true
 |p,x::l=>P6 x&&((match p with|some y => !decide (x.f0≤y.f0)|none=>true)&&qO (some x) l)
def dH (l:List GSession):Bool:=qO none l&&decide ((l.length:Int)≤3)
theorem P7 (ay:List GSession)(c:ay.length≤1050000):∀(rest:List GSession)(i:Nat),ay.drop i=rest →
  cJ ay rest i=some (cond (qO (ga ay i) rest) .x0 (.ret false))∧cX ay rest i=some (cond (qO (ga ay i) rest) .x0 (.ret false))
 |[],i,_=>⟨rfl,rfl⟩
 |x::rest,i,h=>by
  obtain⟨a,b⟩:=P7 ay c rest (i+1) (aq h);rw[vx h]at a b;have d:Eq x.f1=ae x.f1 0 1000000:=rfl;unfold cJ cX qO P6;by_cases hi:0<i
  ·obtain⟨y,e,f⟩:=xt h hi c;have hc:decide ((i:Int)>0)=true:=Uj (by omega);have g:decide (y.f0≥x.f0)=decide (x.f0≤y.f0):=rfl;rw[e];simp only[hc,f,a,b,d,g,Ua,Uo];cases ae x.f0 1 1000000<;>cases ae x.f1 0 1000000<;>cases decide ((x.f2.size:Int)>60)<;>cases x.f1==0<;>cases x.f2.toList==ByteArray.empty.toList<;>cases decide (x.f0≤y.f0)<;>exact⟨rfl,rfl⟩
  ·have hz:i=0:=by omega
   subst hz;have hc:decide (((0:Nat):Int)>0)=false:=rfl;have j:ga ay 0=none:=rfl;rw[j];simp only[hc,a,b,d,Uu];cases ae x.f0 1 1000000<;>cases ae x.f1 0 1000000<;>cases decide ((x.f2.size:Int)>60)<;>cases x.f1==0<;>cases x.f2.toList==ByteArray.empty.toList<;>exact⟨rfl,rfl⟩
theorem BG (l:List GSession)(h:ac.sm l):lQ l=some (dH l)∧mE l=some (dH l):=by obtain⟨a,b⟩:=P7 l h.1 l 0 rfl;have c:ga l 0=none:=rfl;rw[c]at a b;unfold lQ mE dH;rw[Ub (bI h),Ub (bI h),a,b];cases qO none l<;>exact⟨rfl,rfl⟩
theorem cW (x0:List GSession)(h:ac.sm x0):Does E 12 [.one (.s .far () 3 (x0.map GSession.t))] [T3 (dH x0)]:=by exact DM x0 _ (BG x0 h).1
theorem gd (x0:List GSession)(h:ac.sm x0):Does E 20 [.one (.s .far () 3 (x0.map GSession.t))] [T3 (dH x0)]:=by exact Ep x0 _ (BG x0 h).2
inductive yr where|ret (v2:Bool)|x0
def aP (q0:Kd)(a:List GSession)(b:List GPlan)(c:List GRun)(d e v3:Int):US:=stL 67 [(1,.box () [.s .far () 3 (a.map GSession.t),.s .far () 9 (b.map (GPlan.t q0 q0)),.s .far () 5 (c.map (GRun.t q0)),tI d,tI e]),(3,T5 v3)]
def a7 (q0:Kd)(a:Bool):US:=stL 67 [(2,T6 a)]
def lP (q0:Kd)(a:List GSession)(b:List GPlan)(c:List GRun)(d e:Int):US:=stL 67 [(1,.box () [.s .far () 3 (a.map GSession.t),.s .far () 9 (b.map (GPlan.t q0 q0)),.s .far () 5 (c.map (GRun.t q0)),tI d,tI e])]
abbrev bf:US→Exit→US→Prop:=Round E 14 (am Tryz.f14 0)
def Hw {q0:Kd}(a:List GSession)(b:List GPlan)(c:List GRun)(d e v3:Int):yr→Prop| .ret f=>Loops E 14 (am Tryz.f14 0) (aP q0 a b c d e v3) .ret (a7 q0 f)| .x0=>Loops E 14 (am Tryz.f14 0) (aP q0 a b c d e v3) (.exit 0) (lP q0 a b c d e)
end
end Go.Proofs.YtoanlngmbcnglaaGreatDoor.Am
