/- Right boards. -/
import Derived.Test.YtoanlngmbcnglaaGreatDoorRunf
namespace Go.Proofs.YtoanlngmbcnglaaGreatDoor.Am
open Go
set_option linter.unusedVariables false
set_option linter.unusedSimpArgs false
section
open Go.Proofs Classical
set_option maxRecDepth 100000
noncomputable def rh (x0:GBoard):Option (Bool):=if ac.sm x0.f0 then cond (dH x0.f0) (cond (decide ((x0.f1.length:Int)>(2:Int))) (some (false)) (cond (decide ((x0.f2.length:Int)>(8:Int))) (some (false)) (cond (ae x0.f4 0 999999991) (cond (ae x0.f3 0 68374079) (if ac.sm x0 then cond (tV x0) (if bH x0.f1=true then if x0.f2.length≤8 then cond (wv x0) (cond (decide ((bJ x0 (⟨#[111,110,101]⟩:ByteArray))≤(1:Int))) (cond (decide ((bJ x0 (⟨#[116,119,111]⟩:ByteArray))≤(2:Int))) (some (decide ((bJ x0 (⟨#[119,105,100,101]⟩:ByteArray))≤(4:Int)))) (some (false))) (some (false))) (some (false))else none else none) (some (false))else none) (some (false))) (some (false))))) (some (false))else none
theorem LM {q0:Kd}(x0:GBoard):Ans (rh x0) (fun r=>Does E 5 [.agg (GBoard.t .far q0 x0)] [T3 r]):=by
 unfold rh;refine TY (fun b => ?_);apply TW<;>intro c
 ·apply TW<;>intro d
  ·exact TT (DP Tryz.f5 [rT,T8 (x0.f1.length:Int),.b true] (AD (T1 (cW x0.f0 b) c)<|ALn x0.f1 (GPlan.t q0 q0)<|AC d<|AN))
  ·apply TW<;>intro f
   ·exact TT (DP Tryz.f5 [rT,T8 (x0.f1.length:Int),.b false,T8 (x0.f2.length:Int),.b true] (AD (T1 (cW x0.f0 b) c)<|ALn x0.f1 (GPlan.t q0 q0)<|AC d<|ALn x0.f2 (GRun.t q0)<|AC f<|AN))
   ·apply TW<;>intro g
    ·apply TW<;>intro i
     ·refine TY (fun a => ?_);apply TW<;>intro j
      ·refine TY (fun m => ?_);refine TY (fun n => ?_);apply TW<;>intro e
       ·apply TW<;>intro h
        ·apply TW<;>intro l
         ·exact TT (DP Tryz.f5 [rT,T8 (x0.f1.length:Int),.b false,T8 (x0.f2.length:Int),.b false,rT,rT,rT,rT,.ret [T2 (bJ x0 (⟨#[111,110,101]⟩:ByteArray))],.b true,.ret [T2 (bJ x0 (⟨#[116,119,111]⟩:ByteArray))],.b true,.ret [T2 (bJ x0 (⟨#[119,105,100,101]⟩:ByteArray))]] (AD (T1 (cW x0.f0 b) c)<|ALn x0.f1 (GPlan.t q0 q0)<|AC d<|ALn x0.f2 (GRun.t q0)<|AC f<|AD (T1 (ag x0.f4 0 999999991) g)<|AD (T1 (ag x0.f3 0 68374079) i)<|AV (ψ:=fun k=>E.C k 14 [.agg (GBoard.t .far q0 x0)]=some [T3 true]) (TZ (lS x0 a) (by rw[j]))<|AV (ψ:=fun k=>E.C k 15 [.agg (GBoard.t .far q0 x0)]=some [T3 true]) (TZ (qU x0 a m n) (by rw[e]))<|AV (ψ:=fun k=>E.C k 16 [.agg (GBoard.t .far q0 x0),T7 (⟨#[111,110,101]⟩:ByteArray)]=some [T2 (bJ x0 (⟨#[111,110,101]⟩:ByteArray))]) (ms x0 (⟨#[111,110,101]⟩:ByteArray) a)<|AC h<|AV (ψ:=fun k=>E.C k 16 [.agg (GBoard.t .far q0 x0),T7 (⟨#[116,119,111]⟩:ByteArray)]=some [T2 (bJ x0 (⟨#[116,119,111]⟩:ByteArray))]) (ms x0 (⟨#[116,119,111]⟩:ByteArray) a)<|AC l<|AV (ψ:=fun k=>E.C k 16 [.agg (GBoard.t .far q0 x0),T7 (⟨#[119,105,100,101]⟩:ByteArray)]=some [T2 (bJ x0 (⟨#[119,105,100,101]⟩:ByteArray))]) (ms x0 (⟨#[119,105,100,101]⟩:ByteArray) a)<|AN))
         ·exact TT (DP Tryz.f5 [rT,T8 (x0.f1.length:Int),.b false,T8 (x0.f2.length:Int),.b false,rT,rT,rT,rT,.ret [T2 (bJ x0 (⟨#[111,110,101]⟩:ByteArray))],.b true,.ret [T2 (bJ x0 (⟨#[116,119,111]⟩:ByteArray))],.b false] (AD (T1 (cW x0.f0 b) c)<|ALn x0.f1 (GPlan.t q0 q0)<|AC d<|ALn x0.f2 (GRun.t q0)<|AC f<|AD (T1 (ag x0.f4 0 999999991) g)<|AD (T1 (ag x0.f3 0 68374079) i)<|AV (ψ:=fun k=>E.C k 14 [.agg (GBoard.t .far q0 x0)]=some [T3 true]) (TZ (lS x0 a) (by rw[j]))<|AV (ψ:=fun k=>E.C k 15 [.agg (GBoard.t .far q0 x0)]=some [T3 true]) (TZ (qU x0 a m n) (by rw[e]))<|AV (ψ:=fun k=>E.C k 16 [.agg (GBoard.t .far q0 x0),T7 (⟨#[111,110,101]⟩:ByteArray)]=some [T2 (bJ x0 (⟨#[111,110,101]⟩:ByteArray))]) (ms x0 (⟨#[111,110,101]⟩:ByteArray) a)<|AC h<|AV (ψ:=fun k=>E.C k 16 [.agg (GBoard.t .far q0 x0),T7 (⟨#[116,119,111]⟩:ByteArray)]=some [T2 (bJ x0 (⟨#[116,119,111]⟩:ByteArray))]) (ms x0 (⟨#[116,119,111]⟩:ByteArray) a)<|AC l<|AN))
        ·exact TT (DP Tryz.f5 [rT,T8 (x0.f1.length:Int),.b false,T8 (x0.f2.length:Int),.b false,rT,rT,rT,rT,.ret [T2 (bJ x0 (⟨#[111,110,101]⟩:ByteArray))],.b false] (AD (T1 (cW x0.f0 b) c)<|ALn x0.f1 (GPlan.t q0 q0)<|AC d<|ALn x0.f2 (GRun.t q0)<|AC f<|AD (T1 (ag x0.f4 0 999999991) g)<|AD (T1 (ag x0.f3 0 68374079) i)<|AV (ψ:=fun k=>E.C k 14 [.agg (GBoard.t .far q0 x0)]=some [T3 true]) (TZ (lS x0 a) (by rw[j]))<|AV (ψ:=fun k=>E.C k 15 [.agg (GBoard.t .far q0 x0)]=some [T3 true]) (TZ (qU x0 a m n) (by rw[e]))<|AV (ψ:=fun k=>E.C k 16 [.agg (GBoard.t .far q0 x0),T7 (⟨#[111,110,101]⟩:ByteArray)]=some [T2 (bJ x0 (⟨#[111,110,101]⟩:ByteArray))]) (ms x0 (⟨#[111,110,101]⟩:ByteArray) a)<|AC h<|AN))
       ·exact TT (DP Tryz.f5 [rT,T8 (x0.f1.length:Int),.b false,T8 (x0.f2.length:Int),.b false,rT,rT,rT,rF] (AD (T1 (cW x0.f0 b) c)<|ALn x0.f1 (GPlan.t q0 q0)<|AC d<|ALn x0.f2 (GRun.t q0)<|AC f<|AD (T1 (ag x0.f4 0 999999991) g)<|AD (T1 (ag x0.f3 0 68374079) i)<|AV (ψ:=fun k=>E.C k 14 [.agg (GBoard.t .far q0 x0)]=some [T3 true]) (TZ (lS x0 a) (by rw[j]))<|AV (ψ:=fun k=>E.C k 15 [.agg (GBoard.t .far q0 x0)]=some [T3 false]) (TZ (qU x0 a m n) (by rw[e]))<|AN))
      ·exact TT (DP Tryz.f5 [rT,T8 (x0.f1.length:Int),.b false,T8 (x0.f2.length:Int),.b false,rT,rT,rF] (AD (T1 (cW x0.f0 b) c)<|ALn x0.f1 (GPlan.t q0 q0)<|AC d<|ALn x0.f2 (GRun.t q0)<|AC f<|AD (T1 (ag x0.f4 0 999999991) g)<|AD (T1 (ag x0.f3 0 68374079) i)<|AV (ψ:=fun k=>E.C k 14 [.agg (GBoard.t .far q0 x0)]=some [T3 false]) (TZ (lS x0 a) (by rw[j]))<|AN))
     ·exact TT (DP Tryz.f5 [rT,T8 (x0.f1.length:Int),.b false,T8 (x0.f2.length:Int),.b false,rT,rF] (AD (T1 (cW x0.f0 b) c)<|ALn x0.f1 (GPlan.t q0 q0)<|AC d<|ALn x0.f2 (GRun.t q0)<|AC f<|AD (T1 (ag x0.f4 0 999999991) g)<|AD (T1 (ag x0.f3 0 68374079) i)<|AN))
    ·exact TT (DP Tryz.f5 [rT,T8 (x0.f1.length:Int),.b false,T8 (x0.f2.length:Int),.b false,rF] (AD (T1 (cW x0.f0 b) c)<|ALn x0.f1 (GPlan.t q0 q0)<|AC d<|ALn x0.f2 (GRun.t q0)<|AC f<|AD (T1 (ag x0.f4 0 999999991) g)<|AN))
 ·exact TT (DP Tryz.f5 [rF] (AD (T1 (cW x0.f0 b) c)<|AN))
inductive zh where|ret (v2:Bool)|x2
def kb (q0:Kd)(a:List GSession)(b:List GPlan)(c:List GRun)(d e:Int)(f:List GPlan)(g h:Int)(i:List GTask)(j k:Int):US:=stL 64 [(1,.box () [.s .far () 3 (a.map GSession.t),.s .far () 9 (b.map (GPlan.t q0 q0)),.s .far () 5 (c.map (GRun.t q0)),tI d,tI e]),(34,.one (.s .far () 9 (f.map (GPlan.t q0 q0)))),(35,T5 g),(36,T5 h),(48,.one (.s .far () 5 (i.map (GTask.t q0)))),(49,T5 j),(50,T5 k)]
def pf (q0:Kd)(a:Bool):US:=stL 64 [(2,T6 a)]
def ql (q0:Kd)(a:List GSession)(b:List GPlan)(c:List GRun)(d e:Int)(f:List GPlan)(g h:Int):US:=stL 64 [(1,.box () [.s .far () 3 (a.map GSession.t),.s .far () 9 (b.map (GPlan.t q0 q0)),.s .far () 5 (c.map (GRun.t q0)),tI d,tI e]),(34,.one (.s .far () 9 (f.map (GPlan.t q0 q0)))),(35,T5 g),(36,T5 h)]
abbrev tE:US→Exit→US→Prop:=Round E 7 (am Tryz.f7 1)
def IC {q0:Kd}(a:List GSession)(b:List GPlan)(c:List GRun)(d e:Int)(f:List GPlan)(g h:Int)(i:List GTask)(j k:Int):zh→Prop| .ret l=>Loops E 7 (am Tryz.f7 1) (kb q0 a b c d e f g h i j k) .ret (pf q0 l)| .x2=>Loops E 7 (am Tryz.f7 1) (kb q0 a b c d e f g h i j k) (.exit 2) (ql q0 a b c d e f g h)
noncomputable def i8 (a:List GSession)(b:List GPlan)(c:List GRun)(d e:Int):List GTask→Nat→Option zh|[],i=>some (.x2)|hd::rest,i=>if ac.sm (GBoard.mk a b c d e)then cond (decide ((bJ (GBoard.mk a b c d e) hd.f1)>(aY hd.f1))) (some (.ret false)) (i8 a b c d e rest (i+1))else none
theorem IA {q0:Kd}(a:List GSession)(b:List GPlan)(c:List GRun)(d e:Int)(g:List GPlan)(j l:Int)(f:List GTask)(rest:List GTask):∀(i:Nat) ,(f).drop i=rest→f.length≤9223372036854775807→Ans (i8 a b c d e rest i) (IC (q0:=q0) a b c d e g j l f (f.length:Int) (i:Int)):=by
 induction rest with
 |nil =>intro i m n;have hb:=aI m;unfold i8;exact TT (TV (show tE (kb q0 a b c d e g j l f (f.length:Int) (i:Int)) (.exit 2) (ql q0 a b c d e g j l)from RP [.b false] (AC hb<|AN)) (by intro h;cases h))
 |cons hd rest u =>
  intro i m n;have hb:=aC m;have v:=aD m n;have o:=aq m;have p:=aB m;unfold i8;refine TY (fun q => ?_);apply TW<;>intro s
  ·exact TT (TV (show tE (kb q0 a b c d e g j l f (f.length:Int) (i:Int)) .ret (pf q0 false)from RP [.b true,.row ((GTask.t q0) hd),.ret [T2 (bJ (GBoard.mk a b c d e) hd.f1)],.ret [T2 (aY hd.f1)],.b true] (AC hb<|AR (GTask.t q0) p<|AV (ψ:=fun k=>E.C k 26 [.agg (GBoard.t .far q0 (GBoard.mk a b c d e)),T7 hd.f1]=some [T2 (bJ (GBoard.mk a b c d e) hd.f1)]) (Cs (GBoard.mk a b c d e) hd.f1 q)<|AD (iX hd.f1)<|AC s<|AN)) (by intro h;cases h))
  ·exact(u (i+1) o n).mono fun y w=>by have r:tE (kb q0 a b c d e g j l f (f.length:Int) (i:Int)) .normal (kb q0 a b c d e g j l f (f.length:Int) (inc (i:Int))):=RP [.b true,.row ((GTask.t q0) hd),.ret [T2 (bJ (GBoard.mk a b c d e) hd.f1)],.ret [T2 (aY hd.f1)],.b false] (AC hb<|AR (GTask.t q0) p<|AV (ψ:=fun k=>E.C k 26 [.agg (GBoard.t .far q0 (GBoard.mk a b c d e)),T7 hd.f1]=some [T2 (bJ (GBoard.mk a b c d e) hd.f1)]) (Cs (GBoard.mk a b c d e) hd.f1 q)<|AD (iX hd.f1)<|AC s<|AN);rw[v]at r;cases y<;>exact TU r w
inductive zg where|ret (v2:Bool)|x0
def i6 (q0:Kd)(a:List GSession)(b:List GPlan)(c:List GRun)(d e:Int)(f:List GPlan)(g h:Int):US:=stL 64 [(1,.box () [.s .far () 3 (a.map GSession.t),.s .far () 9 (b.map (GPlan.t q0 q0)),.s .far () 5 (c.map (GRun.t q0)),tI d,tI e]),(34,.one (.s .far () 9 (f.map (GPlan.t q0 q0)))),(35,T5 g),(36,T5 h)]
def lF (q0:Kd)(a:Bool):US:=stL 64 [(2,T6 a)]
def qk (q0:Kd)  : US:=stL 64 []
abbrev pd:US→Exit→US→Prop:=Round E 7 (am Tryz.f7 0)
def IB {q0:Kd}(a:List GSession)(b:List GPlan)(c:List GRun)(d e:Int)(f:List GPlan)(g h:Int):zg→Prop| .ret i=>Loops E 7 (am Tryz.f7 0) (i6 q0 a b c d e f g h) .ret (lF q0 i)| .x0=>Loops E 7 (am Tryz.f7 0) (i6 q0 a b c d e f g h) (.exit 0) (qk q0)
noncomputable def i7 (a:List GSession)(b:List GPlan)(c:List GRun)(d e:Int):List GPlan→Nat→Option zg
 |[],i=>some (.x0)
 |hd::rest,i=>if ac.sm (GBoard.mk a b c d e)then cond (decide ((bE (GBoard.mk a b c d e) hd.f0.f0)>(2:Int)))
  (some (.ret false))
  (if hd.f0.f5.length≤9223372036854775807 then(i8 a b c d e hd.f0.f5 0).bind fun y=>match y with
   | .ret f=>(some (.ret f))
   | .x2=>(i7 a b c d e rest (i+1))else none)else none
theorem Iz {q0:Kd}(a:List GSession)(b:List GPlan)(c:List GRun)(d e:Int)(f:List GPlan)(rest:List GPlan):∀(i:Nat) ,(f).drop i=rest→f.length≤9223372036854775807→Ans (i7 a b c d e rest i) (IB (q0:=q0) a b c d e f (f.length:Int) (i:Int)):=by
 induction rest with
 |nil =>intro i j m;have hb:=aI j;unfold i7;exact TT (TV (show pd (i6 q0 a b c d e f (f.length:Int) (i:Int)) (.exit 0) (qk q0)from RP [.b false] (AC hb<|AN)) (by intro h;cases h))
 |cons hd rest v =>
  intro i j m;have hb:=aC j;have w:=aD j m;have n:=aq j;have o:=aB j;unfold i7;refine TY (fun p => ?_);apply TW<;>intro q
  ·exact TT (TV (show pd (i6 q0 a b c d e f (f.length:Int) (i:Int)) .ret (lF q0 false)from RP [.b true,.row ((GPlan.t q0 q0) hd),.ret [T2 (bE (GBoard.mk a b c d e) hd.f0.f0)],.b true] (AC hb<|AR (GPlan.t q0 q0) o<|AV (ψ:=fun k=>E.C k 25 [.agg (GBoard.t .far q0 (GBoard.mk a b c d e)),T7 hd.f0.f0]=some [T2 (bE (GBoard.mk a b c d e) hd.f0.f0)]) (tj (GBoard.mk a b c d e) hd.f0.f0 p)<|AC q<|AN)) (by intro h;cases h))
  ·refine TY (fun s => ?_);refine TX (fun y l => ?_);replace l:=IA (q0:=q0) a b c d e f (f.length:Int) (i:Int) hd.f0.f5 hd.f0.f5 0 rfl s y l;cases y with
   |ret g =>have u:=l;exact TT (TV (show pd (i6 q0 a b c d e f (f.length:Int) (i:Int)) .ret (lF q0 g)from RP [.b true,.row ((GPlan.t q0 q0) hd),.ret [T2 (bE (GBoard.mk a b c d e) hd.f0.f0)],.b false,T8 (hd.f0.f5.length:Int),.lp .ret (pf q0 g)] (AC hb<|AR (GPlan.t q0 q0) o<|AV (ψ:=fun k=>E.C k 25 [.agg (GBoard.t .far q0 (GBoard.mk a b c d e)),T7 hd.f0.f0]=some [T2 (bE (GBoard.mk a b c d e) hd.f0.f0)]) (tj (GBoard.mk a b c d e) hd.f0.f0 p)<|AC q<|ALn hd.f0.f5 (GTask.t q0)<|AL u<|AN)) (by intro h;cases h))
   |x2 =>have u:=l;exact(v (i+1) n m).mono fun y l=>by have r:pd (i6 q0 a b c d e f (f.length:Int) (i:Int)) .normal (i6 q0 a b c d e f (f.length:Int) (inc (i:Int))):=RP [.b true,.row ((GPlan.t q0 q0) hd),.ret [T2 (bE (GBoard.mk a b c d e) hd.f0.f0)],.b false,T8 (hd.f0.f5.length:Int),.lp (.exit 2) (ql q0 a b c d e f (f.length:Int) (i:Int))] (AC hb<|AR (GPlan.t q0 q0) o<|AV (ψ:=fun k=>E.C k 25 [.agg (GBoard.t .far q0 (GBoard.mk a b c d e)),T7 hd.f0.f0]=some [T2 (bE (GBoard.mk a b c d e) hd.f0.f0)]) (tj (GBoard.mk a b c d e) hd.f0.f0 p)<|AC q<|ALn hd.f0.f5 (GTask.t q0)<|AL u<|AN);rw[w]at r;cases y<;>exact TU r l
noncomputable def qX (x0:GBoard):Option (Bool):=
  if ac.sm x0.f0 then cond (dH x0.f0)
   (if ac.sm x0.f1 then cond (bH x0.f1)
    (if ac.sm x0 then if bH x0.f1=true then cond (dS x0)
     (if dS x0=true then cond (oy x0)
      (cond (kO x0.f3)
       (if x0.f1.length≤9223372036854775807 then(i7 x0.f0 x0.f1 x0.f2 x0.f3 x0.f4 x0.f1 0).bind fun y=>match y with
        | .ret a=>(some (a))
        | .x0=>(some (true))else none)
       (some (false)))
      (some (false))else none)
     (some (false))else none else none)
    (some (false))else none)
   (some (false))else none
theorem KX {q0:Kd}(x0:GBoard):Ans (qX x0) (fun r=>Does E 7 [.agg (GBoard.t .far q0 x0)] [T3 r]):=by
 unfold qX;refine TY (fun c => ?_);apply TW<;>intro d
 ·refine TY (fun f => ?_);apply TW<;>intro g
  ·refine TY (fun a => ?_);refine TY (fun b => ?_);apply TW<;>intro h
   ·refine TY (fun j => ?_);apply TW<;>intro l
    ·apply TW<;>intro n
     ·refine TY (fun o => ?_);refine TX (fun y m => ?_);replace m:=Iz (q0:=q0) x0.f0 x0.f1 x0.f2 x0.f3 x0.f4 x0.f1 x0.f1 0 rfl o y m;cases y with
      |ret i =>have e:=m;exact TT (DP Tryz.f7 [rT,rT,rT,rT,rT,T8 (x0.f1.length:Int),.lp .ret (lF q0 i)] (AD (T1 (gd x0.f0 c) d)<|AV (ψ:=fun k=>E.C k 21 [.one (.s .far () 9 (x0.f1.map (GPlan.t q0 q0)))]=some [T3 true]) (TZ (lc x0.f1 f) (by rw[g]))<|AV (ψ:=fun k=>E.C k 22 [.agg (GBoard.t .far q0 x0)]=some [T3 true]) (TZ (oQ x0 a b) (by rw[h]))<|AV (ψ:=fun k=>E.C k 23 [.agg (GBoard.t .far q0 x0)]=some [T3 true]) (TZ (oS x0 a b j) (by rw[l]))<|AD (T1 (tn x0.f3) n)<|ALn x0.f1 (GPlan.t q0 q0)<|AL e<|AN))
      |x0 =>have e:=m;exact TT (DP Tryz.f7 [rT,rT,rT,rT,rT,T8 (x0.f1.length:Int),.lp (.exit 0) (qk q0)] (AD (T1 (gd x0.f0 c) d)<|AV (ψ:=fun k=>E.C k 21 [.one (.s .far () 9 (x0.f1.map (GPlan.t q0 q0)))]=some [T3 true]) (TZ (lc x0.f1 f) (by rw[g]))<|AV (ψ:=fun k=>E.C k 22 [.agg (GBoard.t .far q0 x0)]=some [T3 true]) (TZ (oQ x0 a b) (by rw[h]))<|AV (ψ:=fun k=>E.C k 23 [.agg (GBoard.t .far q0 x0)]=some [T3 true]) (TZ (oS x0 a b j) (by rw[l]))<|AD (T1 (tn x0.f3) n)<|ALn x0.f1 (GPlan.t q0 q0)<|AL e<|AN))
     ·exact TT (DP Tryz.f7 [rT,rT,rT,rT,rF] (AD (T1 (gd x0.f0 c) d)<|AV (ψ:=fun k=>E.C k 21 [.one (.s .far () 9 (x0.f1.map (GPlan.t q0 q0)))]=some [T3 true]) (TZ (lc x0.f1 f) (by rw[g]))<|AV (ψ:=fun k=>E.C k 22 [.agg (GBoard.t .far q0 x0)]=some [T3 true]) (TZ (oQ x0 a b) (by rw[h]))<|AV (ψ:=fun k=>E.C k 23 [.agg (GBoard.t .far q0 x0)]=some [T3 true]) (TZ (oS x0 a b j) (by rw[l]))<|AD (T1 (tn x0.f3) n)<|AN))
    ·exact TT (DP Tryz.f7 [rT,rT,rT,rF] (AD (T1 (gd x0.f0 c) d)<|AV (ψ:=fun k=>E.C k 21 [.one (.s .far () 9 (x0.f1.map (GPlan.t q0 q0)))]=some [T3 true]) (TZ (lc x0.f1 f) (by rw[g]))<|AV (ψ:=fun k=>E.C k 22 [.agg (GBoard.t .far q0 x0)]=some [T3 true]) (TZ (oQ x0 a b) (by rw[h]))<|AV (ψ:=fun k=>E.C k 23 [.agg (GBoard.t .far q0 x0)]=some [T3 false]) (TZ (oS x0 a b j) (by rw[l]))<|AN))
   ·exact TT (DP Tryz.f7 [rT,rT,rF] (AD (T1 (gd x0.f0 c) d)<|AV (ψ:=fun k=>E.C k 21 [.one (.s .far () 9 (x0.f1.map (GPlan.t q0 q0)))]=some [T3 true]) (TZ (lc x0.f1 f) (by rw[g]))<|AV (ψ:=fun k=>E.C k 22 [.agg (GBoard.t .far q0 x0)]=some [T3 false]) (TZ (oQ x0 a b) (by rw[h]))<|AN))
  ·exact TT (DP Tryz.f7 [rT,rF] (AD (T1 (gd x0.f0 c) d)<|AV (ψ:=fun k=>E.C k 21 [.one (.s .far () 9 (x0.f1.map (GPlan.t q0 q0)))]=some [T3 false]) (TZ (lc x0.f1 f) (by rw[g]))<|AN))
 ·exact TT (DP Tryz.f7 [rF] (AD (T1 (gd x0.f0 c) d)<|AN))
def ED:ByteArray:=⟨#[111,110,101]⟩
def Fu:ByteArray:=⟨#[116,119,111]⟩
def wideT:ByteArray:=⟨#[119,105,100,101]⟩
noncomputable def tc (b:GBoard):Bool:=decide (bJ b ED≤1)&&(decide (bJ b Fu≤2)&&decide (bJ b wideT≤4))
noncomputable def mL (b:GBoard)(t:GTask):Bool := !decide (bJ b t.f1>aY t.f1)
noncomputable def B8 (b:GBoard):Bool:=b.f1.all fun p=>p.f0.f5.all (mL b)
theorem Ge (n:ByteArray)(a:List GPlan)(k:Int)(g:GPlan)(c:0≤k)(b:ak a k=some g)(hz:∀t∈g.f0.f5,(t.f1.toList==n.toList)=false):∀(rest:List GState)(i:Nat)(v:Int),cr n a k rest i v=some (.x2 v)
 |[],i,v=>rfl
 |x::rest,i,v=>by
  have d:=Ge n a k g c b hz rest (i+1) v;by_cases hi:i<g.f0.f5.length
  ·have e:ak g.f0.f5 (i:Int)=some g.f0.f5[i]:=by rw[ct];exact Ug hi
   have f:=hz _ (VA hi);unfold cr;simp only[b,e,Ua,show decide ((i:Int)<(g.f0.f5.length:Int))=true from Uj (by omega),show decide (k≥(0:Int))=true from Uj c,Uo,f,d];cases x.f0==(1:Int)<;>rfl
  ·exact As n a k g b (x::rest) i v (by omega)
theorem Qn (n:ByteArray)(b:GBoard)(hb:ac.sm b)(hz:∀p∈b.f1,∀t∈p.f0.f5,(t.f1.toList==n.toList)=false):bJ b n=0:=by
 have e:∀(rest:List GRun)(i:Nat)(v:Int),(∀y∈rest,ac.sm y)→gy n b.f0 b.f1 b.f2 b.f3 b.f4 rest i v=some (.x0 v):=by
  intro rest;induction rest with
  |nil=>intro i v _;rfl
  |cons x rest f =>
   intro i v h;have j:=bI (h x (by simp)).2.2;have c:ac.sm (GBoard.mk b.f0 b.f1 b.f2 b.f3 b.f4):=hb;obtain⟨-, -,s,u⟩:=wt b x.f0 hb.2.1.1;have a:=f (i+1) v fun y m=>h y (by simp[m])
   unfold gy;simp only[Ub j,Ub c];rw[show(GBoard.mk b.f0 b.f1 b.f2 b.f3 b.f4)=b from rfl];by_cases q:aF b x.f0<0
   ·rw[Ks n _ _ q];exact a
   ·obtain⟨g,o,r⟩:=gU (l:=b.f1) (k:=aF b x.f0) (by omega);rw[Ge n b.f1 _ g (by omega) o (hz g r)];exact a
 have d:=(Fy b n hb).1;unfold kU at d;rw[Ub (bI hb.2.2),e b.f2 0 0 hb.2.2.2]at d;exact(V9 d).symm
theorem JD:aY ED=1:=by unfold aY fD ED;simp only[gD];decide
theorem JF:aY Fu=2:=by unfold aY fD Fu;simp only[gD];decide
theorem F1:aY wideT=4:=by unfold aY fD wideT;simp only[gD];decide
theorem N8 {s:ByteArray}(h:(aY s != 0)=true):s=ED∨s=Fu∨s=wideT:=by
 unfold aY fD at h;simp only[gD]at h;by_cases a:tx s=tx ED
 ·exact .inl (rI a)
 ·by_cases b:tx s=tx Fu
  ·exact .inr (.inl (rI b))
  ·by_cases c:tx s=tx wideT
   ·exact .inr (.inr (rI c))
   ·rw[show decide (tx s=tx ⟨#[111,110,101]⟩)=false from Uk a,show decide (tx s=tx ⟨#[116,119,111]⟩)=false from Uk b,show decide (tx s=tx ⟨#[119,105,100,101]⟩)=false from Uk c]at h;cases h
theorem Q8 (b:GBoard)(hb:ac.sm b)(m:bH b.f1=true):B8 b=tc b:=by
 have f:∀(q:ByteArray)(k:Int),aY q=k→0≤k→B8 b=true→bJ b q≤k:=fun q k g n h=>by
  by_cases j:∃p∈b.f1,∃t∈p.f0.f5,(t.f1.toList==q.toList)=true
  ·obtain⟨p,a,t,c,l⟩:=j;rw[gD,U7]at l;have d:=Ut.1 (Ut.1 h p a) t c;unfold mL at d;rw[rI l,g]at d;simp at d;exact d
  ·have:=Qn q b hb fun p a t c=>by
    cases z:(t.f1.toList==q.toList)with
    |false=>rfl
    |true=>exact absurd ⟨p,a,t,c,z⟩ j
   omega
 refine Bool.eq_iff_iff.2 ⟨fun h => ?_,fun h => ?_⟩
 ·unfold tc;rw[Uj (f ED 1 JD (by decide) h),Uj (f Fu 2 JF (by decide) h),Uj (f wideT 4 F1 (by decide) h)];rfl
 ·unfold tc at h;simp only[Ux,U7]at h;refine Ut.2 fun p a=>Ut.2 fun t c => ?_
  obtain⟨hs,hd⟩:=vw hb m a;obtain⟨k,g,rfl⟩:=WV c;have i:=sT p.f0.f5 p.f0.f5 0 rfl (tz hd).2.2.1 k _ (by omega) (Ug g);unfold jh at i;simp only[Ux]at i;unfold mL;have o:bJ b p.f0.f5[k].f1≤aY p.f0.f5[k].f1:=by
   rcases N8 i.2.2.1 with e|e|e
   ·rw[e,JD];exact h.1
   ·rw[e,JF];exact h.2.1
   ·rw[e,F1];exact h.2.2
  rw[Uk (by omega)];rfl
noncomputable def dM (b:GBoard):Bool:=dH b.f0&&(bH b.f1&&(dS b&&(oy b&&(kO b.f3&&(b.f1.all (ji b)&&tc b)))))
theorem My (b:GBoard)(hb:ac.sm b):∀(rest:List GTask)(i:Nat),i8 b.f0 b.f1 b.f2 b.f3 b.f4 rest i=some (cond (rest.all (mL b)) .x2 (.ret false))
 |[],i=>rfl
 |x::rest,i=>by
  have a:GBoard.mk b.f0 b.f1 b.f2 b.f3 b.f4=b:=rfl;have e:decide (bJ b x.f1>aY x.f1)= !mL b x:=by unfold mL;rw[Bool.not_not]
  unfold i8;rw[a,Ub hb,My b hb rest,Vl,e];cases mL b x<;>rfl
theorem Mx (b:GBoard)(hb:ac.sm b):∀(rest:List GPlan)(i:Nat),(∀y∈rest,ac.sm y)→i7 b.f0 b.f1 b.f2 b.f3 b.f4 rest i=some (cond (rest.all (ji b)&&rest.all fun p=>p.f0.f5.all (mL b)) .x0 (.ret false))
 |[],i,_=>rfl
 |x::rest,i,h=>by
  have a:GBoard.mk b.f0 b.f1 b.f2 b.f3 b.f4=b:=rfl;have c:decide (bE b x.f0.f0>2)= !ji b x:=by unfold ji;rw[Bool.not_not]
  have d:ac.sm x.f0:=h x (by simp);have e:=Mx b hb rest (i+1) fun y f=>h y (by simp[f])
  unfold i7;rw[a,Ub hb,Ub (bI d.2.2),My b hb,Vl,Vl,c];cases ji b x with
  |false=>rfl
  |true =>
   cases x.f0.f5.all (mL b)with
   |false=>cases rest.all (ji b)<;>rfl
   |true=>exact e.trans rfl
theorem OL (b:GBoard)(hb:ac.sm b):qX b=some (dM b):=by
 unfold qX dM;rw[Ub hb.1,Ub hb.2.1,Ub hb,Ub (bI hb.2.1),Mx b hb b.f1 0 hb.2.1.2];cases a:bH b.f1 with
 |false=>cases dH b.f0<;>rfl
 |true =>
  have e:=Q8 b hb a;unfold B8 at e;rw[e];cases dH b.f0<;>try rfl
  cases rg:dS b<;>try rfl
  cases oy b<;>try rfl
  cases kO b.f3<;>try rfl
  cases b.f1.all (ji b)<;>cases tc b<;>rfl
theorem OM (b:GBoard)(hb:ac.sm b):rh b=some (dM b):=by
 have c:ae b.f3 0 68374079=kO b.f3:=rfl;have d:tV b=(bH b.f1&&b.f1.all (ji b)):=rfl;have e:wv b=(dS b&&dx b.f4 [] (cu b.f2)):=rfl;have f:oy b=(dx b.f4 [] (cu b.f2)&&ae b.f4 0 999999991):=rfl;have g:tc b=(decide (bJ b ⟨#[111,110,101]⟩≤1)&&(decide (bJ b ⟨#[116,119,111]⟩≤2)&&decide (bJ b ⟨#[119,105,100,101]⟩≤4))):=rfl;unfold rh dM;rw[c,d,f,g,Ub hb.1,Ub hb];by_cases l2:b.f1.length≤2
 ·by_cases h:b.f2.length≤8
  ·rw[Uk (show ¬((b.f1.length:Int)>2) by omega),Uk (show ¬((b.f2.length:Int)>8) by omega),Ub h,e];cases bH b.f1 with
   |false=>cases dH b.f0<;>cases ae b.f4 0 999999991<;>cases kO b.f3<;>rfl
   |true =>
    cases dH b.f0<;>try rfl
    cases dS b with
    |false=>cases ae b.f4 0 999999991<;>cases kO b.f3<;>cases b.f1.all (ji b)<;>rfl
    |true =>
     cases dx b.f4 [] (cu b.f2)with
     |false=>cases ae b.f4 0 999999991<;>cases kO b.f3<;>cases b.f1.all (ji b)<;>rfl
     |true =>
      cases ae b.f4 0 999999991<;>try rfl
      cases kO b.f3<;>try rfl
      cases b.f1.all (ji b)<;>try rfl
      cases decide (bJ b ⟨#[111,110,101]⟩≤1)<;>try rfl
      cases decide (bJ b ⟨#[116,119,111]⟩≤2)<;>rfl
  ·have a:dS b=false:=by unfold dS;rw[Uk (by omega)];exact VR _
   rw[Uj (show(b.f2.length:Int)>8 by omega),a];cases dH b.f0<;>cases decide ((b.f1.length:Int)>2)<;>cases bH b.f1<;>rfl
 ·have a:bH b.f1=false:=by unfold bH;rw[Uk (by omega)];exact VR _
  rw[Uj (show(b.f1.length:Int)>2 by omega),a];cases dH b.f0<;>rfl
theorem u3 {q0:Kd}(x0:GBoard)(h:ac.sm x0):Does E 5 [.agg (GBoard.t .far q0 x0)] [T3 (dM x0)]:=by exact LM x0 _ (OM x0 h)
theorem uX {q0:Kd}(x0:GBoard)(h:ac.sm x0):Does E 7 [.agg (GBoard.t .far q0 x0)] [T3 (dM x0)]:=by exact KX x0 _ (OL x0 h)
end
end Go.Proofs.YtoanlngmbcnglaaGreatDoor.Am
