/- What is drawn: the cursor, rules, places. -/
import Derived.Test.YtlhgcolciklecaaEnv
namespace Go.Proofs.Ytlhgcolciklecaa.Am
open Go
set_option linter.unusedVariables false
set_option linter.unusedSimpArgs false
section
open Go.Proofs Classical
set_option maxRecDepth 100000
structure GCron where
 f0:List Int
 f1:List Int
 f2:List Int
 f3:List Int
 f4:List Int
def DX (k:Kd)(x:GCron):List (T Unit):=[.s k () 1 (x.f0.map etI),.s k () 1 (x.f1.map etI),.s k () 1 (x.f2.map etI),.s k () 1 (x.f3.map etI),.s k () 1 (x.f4.map etI)]
instance:aA GCron:=⟨fun x=>aA.sm x.f0∧aA.sm x.f1∧aA.sm x.f2∧aA.sm x.f3∧aA.sm x.f4⟩
instance:Wf GCron:=⟨fun x=>Wf.wf x.f0∧Wf.wf x.f1∧Wf.wf x.f2∧Wf.wf x.f3∧Wf.wf x.f4⟩
structure GSpan where
 f0:Int
 f1:Int
def DY (x:GSpan):List (T Unit):=[tI x.f0,tI x.f1]
instance:aA GSpan:=⟨fun x=>True⟩
instance:Wf GSpan:=⟨fun x=>True⟩
structure GCivil where
 f0:Int
 f1:Int
 f2:Int
 f3:Int
 f4:Int
def DW (x:GCivil):List (T Unit):=[tI x.f0,tI x.f1,tI x.f2,tI x.f3,tI x.f4]
instance:aA GCivil:=⟨fun x=>True⟩
instance:Wf GCivil:=⟨fun x=>True⟩
structure Pl01Cur where
 f0:List Int
 f1:Int
 f2:Int
def Pl01Cur.t (k:Kd)(x:Pl01Cur):List (T Unit):=[.s k () 1 (x.f0.map etY),tI x.f1,tI x.f2]
instance:aA Pl01Cur:=⟨fun x=>aA.sm x.f0⟩
instance:Wf Pl01Cur:=⟨fun x=>Wf.wf x.f0⟩
def bA (x a b:Int):Bool:=decide (x≥a)&&decide (x≤b)
theorem lX {α:Type}{l:List α}{k:Int}(h:0≤k∧k<(l.length:Int)):∃x,ba l k=some x∧x∈l:=by unfold ba;rw[Ej h.1,El (by omega)];exact⟨_,rfl,FY _⟩
noncomputable def og (a b c:Int):Option (Bool):=cond (decide (a≥b)) (some (decide (a≤c))) (some (false))
theorem yG (a b c:Int):Ans (og a b c) (fun r=>Does E 26 [D7 a,D7 b,D7 c] [D5 r]):=by
 unfold og;apply DO<;>intro d
 ·exact DL (DP Try.f26 [.b true] (AC d<|AN))
 ·exact DL (DP Try.f26 [.b false] (AC d<|AN))
theorem bG (a:Int)(b:Int)(c:Int):Does E 26 [D7 a,D7 b,D7 c] [D5 (bA a b c)]:=by exact yG a b c _ (by unfold og bA;cases decide (a≥b)<;>rfl)
noncomputable def lv (a b c:Int):Option (Bool):=cond (decide (a≥b)) (some (decide (a≤c))) (some (false))
theorem ve (a b c:Int):Ans (lv a b c) (fun r=>Does E 35 [D7 a,D7 b,D7 c] [D5 r]):=by
 unfold lv;apply DO<;>intro d
 ·exact DL (DP Try.f35 [.b true] (AC d<|AN))
 ·exact DL (DP Try.f35 [.b false] (AC d<|AN))
theorem gK (a:Int)(b:Int)(c:Int):Does E 35 [D7 a,D7 b,D7 c] [D5 (bA a b c)]:=by exact ve a b c _ (by unfold lv bA;cases decide (a≥b)<;>rfl)
inductive o5 where|x0 (v3:Int)
def gW (a:List Int)(v3 v4:Int):US:=stL 32 [(0,.one (Ed 1 (a.map etY))),(3,D7 v3),(4,D7 v4)]
def ia (b:List Int)(a:Int):US:=stL 32 [(0,.one (Ed 1 (b.map etY))),(3,D7 a)]
abbrev lH:US→Exit→US→Prop:=Round E 18 (aI Try.f18 0)
def vy (b:List Int)(v3 v4:Int):o5→Prop| .x0 a=>Loops E 18 (aI Try.f18 0) (gW b v3 v4) (.exit 0) (ia b a)
noncomputable def eE  : List Int→Nat→Int→Option o5|[],i,v3=>some (.x0 v3)|hd::rest,i,v3=>cond (decide ((i:Int)<(4000:Int))) (eE rest (i+1) (cF (IntKind.wrap .i64 ((IntKind.wrap .i64 ((IntKind.wrap .i64 (v3*(131:Int)))+(IntKind.wrap .i64 hd)))+(7:Int))) 1073741823)) (some (.x0 v3))
theorem vx (a:List Int)(rest:List Int):∀(i:Nat)(v3:Int),(a).drop i=rest→a.length≤9223372036854775807→Ans (eE rest i v3) (vy a v3 (i:Int)):=by
 induction rest with
 |nil =>intro i v3 b c;have hb:=eL b;unfold eE;exact DL (DN (show lH (gW a v3 (i:Int)) (.exit 0) (ia a v3)from RP [Ea (a.length:Int),.b false] (ALn a etY<|AC hb<|AN)))
 |cons hd rest f =>
  intro i v3 b c;have hb:=dL b;have g:=dM b c;have d:=cO b;have h:=eM b;unfold eE;apply DO<;>intro e
  ·exact(f (i+1) (cF (IntKind.wrap .i64 ((IntKind.wrap .i64 ((IntKind.wrap .i64 (v3*(131:Int)))+(IntKind.wrap .i64 hd)))+(7:Int))) 1073741823) d c).mono fun y j=>by have r:lH (gW a v3 (i:Int)) .normal (gW a (cF (IntKind.wrap .i64 ((IntKind.wrap .i64 ((IntKind.wrap .i64 (v3*(131:Int)))+(IntKind.wrap .i64 hd)))+(7:Int))) 1073741823) (inc (i:Int))):=RP [Ea (a.length:Int),.b true,.b true,.row (etY hd),.no,.no,Ea (cF (IntKind.wrap .i64 ((IntKind.wrap .i64 ((IntKind.wrap .i64 (v3*(131:Int)))+(IntKind.wrap .i64 hd)))+(7:Int))) 1073741823)] (ALn a etY<|AC hb<|AC e<|AR etY h<|AC (p:=ex E.tab .and 3 (.int .i64 (IntKind.wrap .i64 ((IntKind.wrap .i64 ((IntKind.wrap .i64 (v3*(131:Int)))+(IntKind.wrap .i64 hd)))+(7:Int)))) (.int .i64 (1073741823:Int))=some (.int .i64 (cF (IntKind.wrap .i64 ((IntKind.wrap .i64 ((IntKind.wrap .i64 (v3*(131:Int)))+(IntKind.wrap .i64 hd)))+(7:Int))) 1073741823))) rfl<|AN);rw[g]at r;cases y<;>exact DM r j
  ·exact DL (DN (show lH (gW a v3 (i:Int)) (.exit 0) (ia a v3)from RP [Ea (a.length:Int),.b true,.b false] (ALn a etY<|AC hb<|AC e<|AN)))
noncomputable def gD (b:List Int):Option (Pl01Cur):=
  if b.length≤9223372036854775807 then(eE b 0 (IntKind.wrap .i64 ((27701:Int)+(b.length:Int)))).bind fun y=>match y with
   | .x0 a=>(some ((Pl01Cur.mk b 0 a)))else none
theorem xq (x0:List Int):Ans (gD x0) (fun r=>Does E 18 [.one (Ed 1 (x0.map etY))] [(false,Ec 3 [(Pl01Cur.t .far r).map T.holeF]:: .any::(Pl01Cur.t .far r).filter T.isFar)]):=by
 unfold gD;apply DR;intro b;apply DQ;intro y c;replace c:=vx x0 x0 0 (IntKind.wrap .i64 ((27701:Int)+(x0.length:Int))) rfl b y c;cases y with
 |x0 a =>have d:=c;exact DL (DP Try.f18 [Ea (x0.length:Int),.lp (.exit 0) (ia x0 a)] (ALn x0 etY<|AL d<|AN))
def bc (c:Pl01Cur):Prop:=0≤c.f1∧c.f0.length≤1050000
noncomputable def aT (x:List Int):Pl01Cur:=(gD x).getD ⟨x,0,0⟩
theorem zN:∀(rest:List Int)(i:Nat)(v:Int),∃r,eE rest i v=some (.x0 r)
 |[],i,v=>⟨v,rfl⟩
 |x::rest,i,v=>by
  unfold eE;cases decide ((i:Int)<(4000:Int))with
  |true=>exact zN rest _ _
  |false=>exact⟨v,rfl⟩
theorem tU (x:List Int)(h:x.length≤1050000):gD x=some (aT x)∧bc (aT x):=by
 obtain⟨r,a⟩:=zN x 0 (IntKind.wrap .i64 ((27701:Int)+(x.length:Int)));have e:gD x=some ⟨x,0,r⟩:=by unfold gD;rw[Ej (by omega),a];rfl
 have p:aT x=⟨x,0,r⟩:=by unfold aT;rw[e];rfl
 rw[p];exact⟨e,Int.le_refl 0,h⟩
theorem pE (a:List Int)(h:a.length≤1050000):Does E 18 [.one (Ed 1 (a.map etY))] [(false,Ec 3 [(Pl01Cur.t .far (aT a)).map T.holeF]:: .any::(Pl01Cur.t .far (aT a)).filter T.isFar)]:=by exact xq a _ (tU a h).1
noncomputable def fP (a:Pl01Cur):Option (Pl01Cur×Int):=cond (decide (a.f1<(a.f0.length:Int))) ((ba a.f0 a.f1).bind fun b=>some ((Pl01Cur.mk a.f0 (inc a.f1) (IntKind.wrap .i64 ((IntKind.wrap .i64 (a.f2*(6364136223846793005:Int)))+(1442695040888963407:Int)))),cF (IntKind.wrap .i64 ((cF (dV (Int.fdiv (IntKind.wrap .i64 ((IntKind.wrap .i64 (a.f2*(6364136223846793005:Int)))+(1442695040888963407:Int))) 8589934592) (Int.fdiv (IntKind.wrap .i64 ((IntKind.wrap .i64 (a.f2*(6364136223846793005:Int)))+(1442695040888963407:Int))) 35184372088832)) (255:Int))+(IntKind.wrap .i64 b))) 255)) (some ((Pl01Cur.mk a.f0 a.f1 (IntKind.wrap .i64 ((IntKind.wrap .i64 (a.f2*(6364136223846793005:Int)))+(1442695040888963407:Int)))),cF (dV (Int.fdiv (IntKind.wrap .i64 ((IntKind.wrap .i64 (a.f2*(6364136223846793005:Int)))+(1442695040888963407:Int))) 8589934592) (Int.fdiv (IntKind.wrap .i64 ((IntKind.wrap .i64 (a.f2*(6364136223846793005:Int)))+(1442695040888963407:Int))) 35184372088832)) 255))
theorem vw (a:Pl01Cur):Ans (fP a) (fun r=>Does E 21 [.box () (Pl01Cur.t .far a)] [(true,Pl01Cur.t .far r.1),DZ r.2]):=by
 unfold fP;apply DO<;>intro c
 ·apply DQ;intro b d;exact DL (DP Try.f21 [.no,.no,Ea (Int.fdiv (IntKind.wrap .i64 ((IntKind.wrap .i64 (a.f2*(6364136223846793005:Int)))+(1442695040888963407:Int))) 8589934592),Ea (Int.fdiv (IntKind.wrap .i64 ((IntKind.wrap .i64 (a.f2*(6364136223846793005:Int)))+(1442695040888963407:Int))) 35184372088832),Ea (dV (Int.fdiv (IntKind.wrap .i64 ((IntKind.wrap .i64 (a.f2*(6364136223846793005:Int)))+(1442695040888963407:Int))) 8589934592) (Int.fdiv (IntKind.wrap .i64 ((IntKind.wrap .i64 (a.f2*(6364136223846793005:Int)))+(1442695040888963407:Int))) 35184372088832)),Ea (cF (dV (Int.fdiv (IntKind.wrap .i64 ((IntKind.wrap .i64 (a.f2*(6364136223846793005:Int)))+(1442695040888963407:Int))) 8589934592) (Int.fdiv (IntKind.wrap .i64 ((IntKind.wrap .i64 (a.f2*(6364136223846793005:Int)))+(1442695040888963407:Int))) 35184372088832)) 255),Ea (a.f0.length:Int),.b true,.row (etY b),.no,Ea (cF (IntKind.wrap .i64 ((cF (dV (Int.fdiv (IntKind.wrap .i64 ((IntKind.wrap .i64 (a.f2*(6364136223846793005:Int)))+(1442695040888963407:Int))) 8589934592) (Int.fdiv (IntKind.wrap .i64 ((IntKind.wrap .i64 (a.f2*(6364136223846793005:Int)))+(1442695040888963407:Int))) 35184372088832)) (255:Int))+(IntKind.wrap .i64 b))) 255)] (AC (p:=ex E.tab .shr 3 (.int .i64 (IntKind.wrap .i64 ((IntKind.wrap .i64 (a.f2*(6364136223846793005:Int)))+(1442695040888963407:Int)))) (.int .u64 (33:Int))=some (.int .i64 (Int.fdiv (IntKind.wrap .i64 ((IntKind.wrap .i64 (a.f2*(6364136223846793005:Int)))+(1442695040888963407:Int))) 8589934592))) rfl<|AC (p:=ex E.tab .shr 3 (.int .i64 (IntKind.wrap .i64 ((IntKind.wrap .i64 (a.f2*(6364136223846793005:Int)))+(1442695040888963407:Int)))) (.int .u64 (45:Int))=some (.int .i64 (Int.fdiv (IntKind.wrap .i64 ((IntKind.wrap .i64 (a.f2*(6364136223846793005:Int)))+(1442695040888963407:Int))) 35184372088832))) rfl<|AC (p:=ex E.tab .xor 3 (.int .i64 (Int.fdiv (IntKind.wrap .i64 ((IntKind.wrap .i64 (a.f2*(6364136223846793005:Int)))+(1442695040888963407:Int))) 8589934592)) (.int .i64 (Int.fdiv (IntKind.wrap .i64 ((IntKind.wrap .i64 (a.f2*(6364136223846793005:Int)))+(1442695040888963407:Int))) 35184372088832))=some (.int .i64 (dV (Int.fdiv (IntKind.wrap .i64 ((IntKind.wrap .i64 (a.f2*(6364136223846793005:Int)))+(1442695040888963407:Int))) 8589934592) (Int.fdiv (IntKind.wrap .i64 ((IntKind.wrap .i64 (a.f2*(6364136223846793005:Int)))+(1442695040888963407:Int))) 35184372088832)))) rfl<|AC (p:=ex E.tab .and 3 (.int .i64 (dV (Int.fdiv (IntKind.wrap .i64 ((IntKind.wrap .i64 (a.f2*(6364136223846793005:Int)))+(1442695040888963407:Int))) 8589934592) (Int.fdiv (IntKind.wrap .i64 ((IntKind.wrap .i64 (a.f2*(6364136223846793005:Int)))+(1442695040888963407:Int))) 35184372088832))) (.int .i64 (255:Int))=some (.int .i64 (cF (dV (Int.fdiv (IntKind.wrap .i64 ((IntKind.wrap .i64 (a.f2*(6364136223846793005:Int)))+(1442695040888963407:Int))) 8589934592) (Int.fdiv (IntKind.wrap .i64 ((IntKind.wrap .i64 (a.f2*(6364136223846793005:Int)))+(1442695040888963407:Int))) 35184372088832)) 255))) rfl<|ALn a.f0 etY<|AC c<|AR etY d<|AC (p:=ex E.tab .and 3 (.int .i64 (IntKind.wrap .i64 ((cF (dV (Int.fdiv (IntKind.wrap .i64 ((IntKind.wrap .i64 (a.f2*(6364136223846793005:Int)))+(1442695040888963407:Int))) 8589934592) (Int.fdiv (IntKind.wrap .i64 ((IntKind.wrap .i64 (a.f2*(6364136223846793005:Int)))+(1442695040888963407:Int))) 35184372088832)) (255:Int))+(IntKind.wrap .i64 b)))) (.int .i64 (255:Int))=some (.int .i64 (cF (IntKind.wrap .i64 ((cF (dV (Int.fdiv (IntKind.wrap .i64 ((IntKind.wrap .i64 (a.f2*(6364136223846793005:Int)))+(1442695040888963407:Int))) 8589934592) (Int.fdiv (IntKind.wrap .i64 ((IntKind.wrap .i64 (a.f2*(6364136223846793005:Int)))+(1442695040888963407:Int))) 35184372088832)) (255:Int))+(IntKind.wrap .i64 b))) 255))) rfl<|AN))
 ·exact DL (DP Try.f21 [.no,.no,Ea (Int.fdiv (IntKind.wrap .i64 ((IntKind.wrap .i64 (a.f2*(6364136223846793005:Int)))+(1442695040888963407:Int))) 8589934592),Ea (Int.fdiv (IntKind.wrap .i64 ((IntKind.wrap .i64 (a.f2*(6364136223846793005:Int)))+(1442695040888963407:Int))) 35184372088832),Ea (dV (Int.fdiv (IntKind.wrap .i64 ((IntKind.wrap .i64 (a.f2*(6364136223846793005:Int)))+(1442695040888963407:Int))) 8589934592) (Int.fdiv (IntKind.wrap .i64 ((IntKind.wrap .i64 (a.f2*(6364136223846793005:Int)))+(1442695040888963407:Int))) 35184372088832)),Ea (cF (dV (Int.fdiv (IntKind.wrap .i64 ((IntKind.wrap .i64 (a.f2*(6364136223846793005:Int)))+(1442695040888963407:Int))) 8589934592) (Int.fdiv (IntKind.wrap .i64 ((IntKind.wrap .i64 (a.f2*(6364136223846793005:Int)))+(1442695040888963407:Int))) 35184372088832)) 255),Ea (a.f0.length:Int),.b false] (AC (p:=ex E.tab .shr 3 (.int .i64 (IntKind.wrap .i64 ((IntKind.wrap .i64 (a.f2*(6364136223846793005:Int)))+(1442695040888963407:Int)))) (.int .u64 (33:Int))=some (.int .i64 (Int.fdiv (IntKind.wrap .i64 ((IntKind.wrap .i64 (a.f2*(6364136223846793005:Int)))+(1442695040888963407:Int))) 8589934592))) rfl<|AC (p:=ex E.tab .shr 3 (.int .i64 (IntKind.wrap .i64 ((IntKind.wrap .i64 (a.f2*(6364136223846793005:Int)))+(1442695040888963407:Int)))) (.int .u64 (45:Int))=some (.int .i64 (Int.fdiv (IntKind.wrap .i64 ((IntKind.wrap .i64 (a.f2*(6364136223846793005:Int)))+(1442695040888963407:Int))) 35184372088832))) rfl<|AC (p:=ex E.tab .xor 3 (.int .i64 (Int.fdiv (IntKind.wrap .i64 ((IntKind.wrap .i64 (a.f2*(6364136223846793005:Int)))+(1442695040888963407:Int))) 8589934592)) (.int .i64 (Int.fdiv (IntKind.wrap .i64 ((IntKind.wrap .i64 (a.f2*(6364136223846793005:Int)))+(1442695040888963407:Int))) 35184372088832))=some (.int .i64 (dV (Int.fdiv (IntKind.wrap .i64 ((IntKind.wrap .i64 (a.f2*(6364136223846793005:Int)))+(1442695040888963407:Int))) 8589934592) (Int.fdiv (IntKind.wrap .i64 ((IntKind.wrap .i64 (a.f2*(6364136223846793005:Int)))+(1442695040888963407:Int))) 35184372088832)))) rfl<|AC (p:=ex E.tab .and 3 (.int .i64 (dV (Int.fdiv (IntKind.wrap .i64 ((IntKind.wrap .i64 (a.f2*(6364136223846793005:Int)))+(1442695040888963407:Int))) 8589934592) (Int.fdiv (IntKind.wrap .i64 ((IntKind.wrap .i64 (a.f2*(6364136223846793005:Int)))+(1442695040888963407:Int))) 35184372088832))) (.int .i64 (255:Int))=some (.int .i64 (cF (dV (Int.fdiv (IntKind.wrap .i64 ((IntKind.wrap .i64 (a.f2*(6364136223846793005:Int)))+(1442695040888963407:Int))) 8589934592) (Int.fdiv (IntKind.wrap .i64 ((IntKind.wrap .i64 (a.f2*(6364136223846793005:Int)))+(1442695040888963407:Int))) 35184372088832)) 255))) rfl<|ALn a.f0 etY<|AC c<|AN))
theorem ow (a:Int):0≤cF a 255∧cF a 255≤255:=by
 have h:(BitVec.ofInt 64 a &&& BitVec.ofInt 64 255).toNat≤255:=by rw[BitVec.toNat_and];exact E7 Nat.and_le_right (by decide)
 unfold cF;rw[aF _ (by omega) (by omega)];omega
noncomputable def ah (c:Pl01Cur):Pl01Cur×Int:=(fP c).getD (c,0)
theorem ku (c:Pl01Cur)(h:bc c):fP c=some (ah c)∧bc (ah c).1∧0≤(ah c).2∧(ah c).2≤255:=by
 have e:∃r,fP c=some r∧bc r.1∧0≤r.2∧r.2≤255:=by
  have b:=h.1;have d:=h.2;unfold fP;by_cases q:c.f1<(c.f0.length:Int)
  ·obtain⟨g,f,_⟩:=lX (l:=c.f0) (k:=c.f1) ⟨b,q⟩;have hi:inc c.f1=c.f1+1:=dP c.f1 (by omega) (by omega);rw[EC q,EG,f];exact⟨_,rfl,⟨by show 0≤inc c.f1;omega,d⟩,(ow _).1,(ow _).2⟩
  ·rw[EA q,EP];exact⟨_,rfl,h,(ow _).1,(ow _).2⟩
 obtain⟨r,a,i⟩:=e;have p:ah c=r:=by unfold ah;rw[a];rfl
 rw[p];exact⟨a,i⟩
theorem fG (a:Pl01Cur)(h:bc a):Does E 21 [.box () (Pl01Cur.t .far a)] [(true,Pl01Cur.t .far ((ah a).1)),DZ ((ah a).2)]:=by exact vw a _ (ku a h).1
noncomputable def eW (a:Pl01Cur)(b:Int):Option (Pl01Cur×Int):=cond (decide (b≤(0:Int))) (some (a,0)) (cond (decide (b≤(256:Int))) (if bc a then if b≠0 then some (((ah a).1),Int.tmod ((ah a).2) b)else none else none) (if bc a then if bc ((ah a).1)then if bc ((ah ((ah a).1)).1)then if bc ((ah ((ah ((ah a).1)).1)).1)then if b≠0 then some (((ah ((ah ((ah ((ah a).1)).1)).1)).1),Int.tmod (IntKind.wrap .i64 ((IntKind.wrap .i64 ((IntKind.wrap .i64 ((IntKind.wrap .i64 (((ah a).2)*(16777216:Int)))+(IntKind.wrap .i64 (((ah ((ah a).1)).2)*(65536:Int)))))+(IntKind.wrap .i64 (((ah ((ah ((ah a).1)).1)).2)*(256:Int)))))+((ah ((ah ((ah ((ah a).1)).1)).1)).2))) b)else none else none else none else none else none))
theorem ul (a:Pl01Cur)(b:Int):Ans (eW a b) (fun r=>Does E 20 [.box () (Pl01Cur.t .far a),D7 b] [(true,Pl01Cur.t .far r.1),DZ r.2]):=by
 unfold eW;apply DO<;>intro c
 ·exact DL (DP Try.f20 [.b true] (AC c<|AN))
 ·apply DO<;>intro f
  ·apply DR;intro d;apply DR;intro e;exact DL (DP Try.f20 [.b false,.b true,.ret [(true,Pl01Cur.t .far ((ah a).1)),DZ ((ah a).2)],Ea (Int.tmod ((ah a).2) b)] (AC c<|AC f<|AV (ψ:=fun k=>E.C k 21 [.box () (Pl01Cur.t .far a)]=some [(true,Pl01Cur.t .far ((ah a).1)),DZ ((ah a).2)]) (fG a d)<|AC (p:=ex E.tab .rem 3 (.int .i64 ((ah a).2)) (.int .i64 b)=some (.int .i64 (Int.tmod ((ah a).2) b))) (zP e)<|AN))
  ·apply DR;intro d;apply DR;intro e;apply DR;intro g;apply DR;intro h;apply DR;intro i;exact DL (DP Try.f20 [.b false,.b false,.ret [(true,Pl01Cur.t .far ((ah a).1)),DZ ((ah a).2)],.ret [(true,Pl01Cur.t .far ((ah ((ah a).1)).1)),DZ ((ah ((ah a).1)).2)],.ret [(true,Pl01Cur.t .far ((ah ((ah ((ah a).1)).1)).1)),DZ ((ah ((ah ((ah a).1)).1)).2)],.ret [(true,Pl01Cur.t .far ((ah ((ah ((ah ((ah a).1)).1)).1)).1)),DZ ((ah ((ah ((ah ((ah a).1)).1)).1)).2)],.no,.no,.no,.no,.no,.no,Ea (Int.tmod (IntKind.wrap .i64 ((IntKind.wrap .i64 ((IntKind.wrap .i64 ((IntKind.wrap .i64 (((ah a).2)*(16777216:Int)))+(IntKind.wrap .i64 (((ah ((ah a).1)).2)*(65536:Int)))))+(IntKind.wrap .i64 (((ah ((ah ((ah a).1)).1)).2)*(256:Int)))))+((ah ((ah ((ah ((ah a).1)).1)).1)).2))) b)] (AC c<|AC f<|AV (ψ:=fun k=>E.C k 21 [.box () (Pl01Cur.t .far a)]=some [(true,Pl01Cur.t .far ((ah a).1)),DZ ((ah a).2)]) (fG a d)<|AV (ψ:=fun k=>E.C k 21 [.box () (Pl01Cur.t .far ((ah a).1))]=some [(true,Pl01Cur.t .far ((ah ((ah a).1)).1)),DZ ((ah ((ah a).1)).2)]) (fG ((ah a).1) e)<|AV (ψ:=fun k=>E.C k 21 [.box () (Pl01Cur.t .far ((ah ((ah a).1)).1))]=some [(true,Pl01Cur.t .far ((ah ((ah ((ah a).1)).1)).1)),DZ ((ah ((ah ((ah a).1)).1)).2)]) (fG ((ah ((ah a).1)).1) g)<|AV (ψ:=fun k=>E.C k 21 [.box () (Pl01Cur.t .far ((ah ((ah ((ah a).1)).1)).1))]=some [(true,Pl01Cur.t .far ((ah ((ah ((ah ((ah a).1)).1)).1)).1)),DZ ((ah ((ah ((ah ((ah a).1)).1)).1)).2)]) (fG ((ah ((ah ((ah a).1)).1)).1) h)<|AC (p:=ex E.tab .rem 3 (.int .i64 (IntKind.wrap .i64 ((IntKind.wrap .i64 ((IntKind.wrap .i64 ((IntKind.wrap .i64 (((ah a).2)*(16777216:Int)))+(IntKind.wrap .i64 (((ah ((ah a).1)).2)*(65536:Int)))))+(IntKind.wrap .i64 (((ah ((ah ((ah a).1)).1)).2)*(256:Int)))))+((ah ((ah ((ah ((ah a).1)).1)).1)).2)))) (.int .i64 b)=some (.int .i64 (Int.tmod (IntKind.wrap .i64 ((IntKind.wrap .i64 ((IntKind.wrap .i64 ((IntKind.wrap .i64 (((ah a).2)*(16777216:Int)))+(IntKind.wrap .i64 (((ah ((ah a).1)).2)*(65536:Int)))))+(IntKind.wrap .i64 (((ah ((ah ((ah a).1)).1)).2)*(256:Int)))))+((ah ((ah ((ah ((ah a).1)).1)).1)).2))) b))) (zP i)<|AN))
noncomputable def ae (c:Pl01Cur)(n:Int):Pl01Cur×Int:=(eW c n).getD (c,0)
theorem wo {a n:Int}(b:0≤a)(c:0<n):0≤Int.tmod a n∧Int.tmod a n<n:=⟨Int.tmod_nonneg n b,Gv a c⟩
theorem jk (c:Pl01Cur)(n:Int)(h:bc c):eW c n=some (ae c n)∧bc (ae c n).1∧0≤(ae c n).2∧(0<n→(ae c n).2<n):=by
 have e:∃r,eW c n=some r∧bc r.1∧0≤r.2∧(0<n→r.2<n):=by
  obtain⟨-,b,t,u⟩:=ku c h;obtain⟨-,j,v,w⟩:=ku _ b;obtain⟨-,k,x,y⟩:=ku _ j;obtain⟨-,a,l,z⟩:=ku _ k;unfold eW;by_cases q:n≤0
  ·rw[EC q,EG];exact⟨_,rfl,h,Int.le_refl 0,fun g=>absurd g (by omega)⟩
  ·rw[EA q,EP];by_cases m:n≤256
   ·have d:n≠0:=by omega
    have o:=wo (n:=n) t (by omega);simp only[EC m,EG,Ej h,Ej d];exact⟨_,rfl,b,o.1,fun _=>o.2⟩
   ·have d:n≠0:=by omega
    simp only[EA m,EP,Ej h,Ej b,Ej j,Ej k,Ej d];refine⟨_,rfl,a,?_,?_⟩
    ·refine(wo ?_ (by omega)).1;generalize (ah c).2=f at *;generalize (ah (ah c).1).2=i at *;generalize (ah (ah (ah c).1).1).2=s at *;generalize (ah (ah (ah (ah c).1).1).1).2=A at *;rw[aF (f*16777216) (by omega) (by omega),aF (i*65536) (by omega) (by omega),aF (s*256) (by omega) (by omega),aF (f*16777216+i*65536) (by omega) (by omega),aF (f*16777216+i*65536+s*256) (by omega) (by omega),aF _ (by omega) (by omega)];omega
    ·intro _;exact Gv _ (by omega)
 obtain⟨r,a,l⟩:=e;have p:ae c n=r:=by unfold ae;rw[a];rfl
 rw[p];exact⟨a,l⟩
theorem dJ (a:Pl01Cur)(b:Int)(h:bc a)(_:b≤1000000000):Does E 20 [.box () (Pl01Cur.t .far a),D7 b] [(true,Pl01Cur.t .far ((ae a b).1)),DZ ((ae a b).2)]:=by exact ul a b _ (jk a b h).1
noncomputable def jN (a:Pl01Cur)(b:Int):Option (Pl01Cur×Bool):=if bc a then if b≤1000000000 then some (((ae a b).1),((ae a b).2)==(0:Int))else none else none
theorem vz (a:Pl01Cur)(b:Int):Ans (jN a b) (fun r=>Does E 43 [.box () (Pl01Cur.t .far a),D7 b] [(true,Pl01Cur.t .far r.1),D5 r.2]):=by unfold jN;apply DR;intro c;apply DR;intro d;exact DL (DP Try.f43 [.ret [(true,Pl01Cur.t .far ((ae a b).1)),DZ ((ae a b).2)]] (AV (ψ:=fun k=>E.C k 20 [.box () (Pl01Cur.t .far a),D7 b]=some [(true,Pl01Cur.t .far ((ae a b).1)),DZ ((ae a b).2)]) (dJ a b c d)<|AN))
noncomputable def ai (c:Pl01Cur)(n:Int):Pl01Cur×Bool:=((ae c n).1,(ae c n).2==0)
theorem qJ (c:Pl01Cur)(n:Int)(h:bc c)(a:n≤1000000000):jN c n=some (ai c n)∧bc (ai c n).1:=by unfold jN;simp only[Ej h,Ej a];exact⟨rfl,(jk c n h).2.1⟩
theorem gL (a:Pl01Cur)(b:Int)(h:bc a)(c:b≤1000000000):Does E 43 [.box () (Pl01Cur.t .far a),D7 b] [(true,Pl01Cur.t .far ((ai a b).1)),D5 ((ai a b).2)]:=by exact vz a b _ (qJ a b h c).1
inductive oo where|x2 (v7:List Int)
def jc (a:List Int)(b c v2:Int)(v7:List Int)(v9 v10:Int):US:=stL 53 [(0,.box () [Ed 1 (a.map etY),tI b,tI c]),(2,D7 v2),(7,.one (Ec 1 (v7.map etI))),(9,D7 v9),(10,D7 v10)]
def gF (a:List Int)(b c:Int)(d:List Int):US:=stL 53 [(0,.box () [Ed 1 (a.map etY),tI b,tI c]),(7,.one (Ec 1 (d.map etI)))]
abbrev ol:US→Exit→US→Prop:=Round E 32 (aI Try.f32 1)
def uu (a:List Int)(b c v2:Int)(v7:List Int)(v9 v10:Int):oo→Prop| .x2 d=>Loops E 32 (aI Try.f32 1) (jc a b c v2 v7 v9 v10) (.exit 2) (gF a b c d)
noncomputable def dU (v2 v9:Int):Nat→(List Int)→Int→Option oo| 0,_,_=>none|n+1,v7,v10=>cond (decide (v10≤v2)) (if(v7.length+([v10]).length)*8≤140737488355328∧v7.length+([v10]).length≤4611686018427387904 then dU v2 v9 n (v7++([v10])) (IntKind.wrap .i64 (v10+v9))else none) (some (.x2 v7))
theorem ur (a:List Int)(b c v2 v9:Int)(n:Nat):∀(v7:List Int)(v10:Int),Ans (dU v2 v9 n v7 v10) (uu a b c v2 v7 v9 v10):=by
 induction n with
 |zero=>intros;exact Ans.none
 |succ n e =>
  intro v7 v10;unfold dU;apply DO<;>intro d
  ·apply DR;intro f;have r:ol (jc a b c v2 v7 v9 v10) .normal (jc a b c v2 (v7++([v10])) v9 (IntKind.wrap .i64 (v10+v9))):=RP [.b true,.rows ((v7++([v10])).map etI)] (AC d<|AAp etI (fun _=>rfl) f<|AN);exact(e (v7++([v10])) (IntKind.wrap .i64 (v10+v9))).mono fun y g=>by cases y<;>exact DM r g
  ·exact DL (DN (show ol (jc a b c v2 v7 v9 v10) (.exit 2) (gF a b c v7)from RP [.b false] (AC d<|AN)))
inductive om where|x0 (v7:List Int)
def jb (a:List Int)(b c v2:Int)(v7:List Int)(v8:Int):US:=stL 53 [(0,.box () [Ed 1 (a.map etY),tI b,tI c]),(2,D7 v2),(7,.one (Ec 1 (v7.map etI))),(8,D7 v8)]
def jD (a:List Int)(b c:Int)(d:List Int):US:=stL 53 [(0,.box () [Ed 1 (a.map etY),tI b,tI c]),(7,.one (Ec 1 (d.map etI)))]
abbrev oj:US→Exit→US→Prop:=Round E 32 (aI Try.f32 0)
def ut (a:List Int)(b c v2:Int)(v7:List Int)(v8:Int):om→Prop| .x0 d=>Loops E 32 (aI Try.f32 0) (jb a b c v2 v7 v8) (.exit 0) (jD a b c d)
noncomputable def dT (v2:Int):Nat→(List Int)→Int→Option om| 0,_,_=>none|n+1,v7,v8=>cond (decide (v8≤v2)) (if(v7.length+([v8]).length)*8≤140737488355328∧v7.length+([v8]).length≤4611686018427387904 then dT v2 n (v7++([v8])) (inc v8)else none) (some (.x0 v7))
theorem uq (a:List Int)(b c v2:Int)(n:Nat):∀(v7:List Int)(v8:Int),Ans (dT v2 n v7 v8) (ut a b c v2 v7 v8):=by
 induction n with
 |zero=>intros;exact Ans.none
 |succ n e =>
  intro v7 v8;unfold dT;apply DO<;>intro d
  ·apply DR;intro f;have r:oj (jb a b c v2 v7 v8) .normal (jb a b c v2 (v7++([v8])) (inc v8)):=RP [.b true,.rows ((v7++([v8])).map etI)] (AC d<|AAp etI (fun _=>rfl) f<|AN);exact(e (v7++([v8])) (inc v8)).mono fun y g=>by cases y<;>exact DM r g
  ·exact DL (DN (show oj (jb a b c v2 v7 v8) (.exit 0) (jD a b c v7)from RP [.b false] (AC d<|AN)))
noncomputable def fR (a:Pl01Cur)(c d:Int):Option (Pl01Cur×(List Int)):=
  if bc a then if(3:Int)≤1000000000 then cond ((ai a 3).2)
   ((dT d 9223372036854775808 ([]) c).bind fun y=>match y with
    | .x0 b=>(some (((ai a 3).1),b)))
   (if bc ((ai a 3).1)then if(IntKind.wrap .i64 ((1:Int)+(IntKind.wrap .i64 (Int.tdiv (IntKind.wrap .i64 (d-c)) 2))))≤1000000000 then if bc ((ae ((ai a 3).1) (IntKind.wrap .i64 ((1:Int)+(IntKind.wrap .i64 (Int.tdiv (IntKind.wrap .i64 (d-c)) 2))))).1)then if(IntKind.wrap .i64 ((1:Int)+((ae ((ai a 3).1) (IntKind.wrap .i64 ((1:Int)+(IntKind.wrap .i64 (Int.tdiv (IntKind.wrap .i64 (d-c)) 2))))).2)))≤1000000000 then(dU d (IntKind.wrap .i64 ((1:Int)+((ae ((ai a 3).1) (IntKind.wrap .i64 ((1:Int)+(IntKind.wrap .i64 (Int.tdiv (IntKind.wrap .i64 (d-c)) 2))))).2))) 9223372036854775808 ([]) (IntKind.wrap .i64 (c+((ae ((ae ((ai a 3).1) (IntKind.wrap .i64 ((1:Int)+(IntKind.wrap .i64 (Int.tdiv (IntKind.wrap .i64 (d-c)) 2))))).1) (IntKind.wrap .i64 ((1:Int)+((ae ((ai a 3).1) (IntKind.wrap .i64 ((1:Int)+(IntKind.wrap .i64 (Int.tdiv (IntKind.wrap .i64 (d-c)) 2))))).2)))).2)))).bind fun y=>match y with
    | .x2 b=>(if bc ((ae ((ae ((ai a 3).1) (IntKind.wrap .i64 ((1:Int)+(IntKind.wrap .i64 (Int.tdiv (IntKind.wrap .i64 (d-c)) 2))))).1) (IntKind.wrap .i64 ((1:Int)+((ae ((ai a 3).1) (IntKind.wrap .i64 ((1:Int)+(IntKind.wrap .i64 (Int.tdiv (IntKind.wrap .i64 (d-c)) 2))))).2)))).1)then if(2:Int)≤1000000000 then cond ((ai ((ae ((ae ((ai a 3).1) (IntKind.wrap .i64 ((1:Int)+(IntKind.wrap .i64 (Int.tdiv (IntKind.wrap .i64 (d-c)) 2))))).1) (IntKind.wrap .i64 ((1:Int)+((ae ((ai a 3).1) (IntKind.wrap .i64 ((1:Int)+(IntKind.wrap .i64 (Int.tdiv (IntKind.wrap .i64 (d-c)) 2))))).2)))).1) 2).2)
     (if 0≤(0:Int)∧(0:Int)≤(1:Int)∧(1:Int)≤(b.length:Int)then some (((ai ((ae ((ae ((ai a 3).1) (IntKind.wrap .i64 ((1:Int)+(IntKind.wrap .i64 (Int.tdiv (IntKind.wrap .i64 (d-c)) 2))))).1) (IntKind.wrap .i64 ((1:Int)+((ae ((ai a 3).1) (IntKind.wrap .i64 ((1:Int)+(IntKind.wrap .i64 (Int.tdiv (IntKind.wrap .i64 (d-c)) 2))))).2)))).1) 2).1),(b.drop (0:Int).toNat).take ((1:Int).toNat-(0:Int).toNat))else none)
     (some (((ai ((ae ((ae ((ai a 3).1) (IntKind.wrap .i64 ((1:Int)+(IntKind.wrap .i64 (Int.tdiv (IntKind.wrap .i64 (d-c)) 2))))).1) (IntKind.wrap .i64 ((1:Int)+((ae ((ai a 3).1) (IntKind.wrap .i64 ((1:Int)+(IntKind.wrap .i64 (Int.tdiv (IntKind.wrap .i64 (d-c)) 2))))).2)))).1) 2).1),b))else none else none)else none else none else none else none)else none else none
theorem vD (x0:Pl01Cur)(a x2:Int):Ans (fR x0 a x2) (fun r=>Does E 32 [.box () (Pl01Cur.t .far x0),D7 a,D7 x2] [(true,Pl01Cur.t .far r.1),(false,[Ec 1 (r.2.map etI)])]):=by
 unfold fR;apply DR;intro f;apply DR;intro g;apply DO<;>intro h
 ·apply DQ;intro y c;replace c:=uq (((ai x0 3).1).f0) (((ai x0 3).1).f1) (((ai x0 3).1).f2) x2 9223372036854775808 ([]) a y c;cases y with
  |x0 b =>have e:=c;exact DL (DP Try.f32 [.ret [(true,Pl01Cur.t .far ((ai x0 3).1)),D5 true],.lp (.exit 0) (jD (((ai x0 3).1).f0) (((ai x0 3).1).f1) (((ai x0 3).1).f2) b)] (AV (ψ:=fun k=>E.C k 43 [.box () (Pl01Cur.t .far x0),D7 (3:Int)]=some [(true,Pl01Cur.t .far ((ai x0 3).1)),D5 true]) (DS (gL x0 3 f g) (by rw[h]))<|AL e<|AN))
 ·apply DR;intro e;apply DR;intro j;apply DR;intro l;apply DR;intro m;apply DQ;intro y c;replace c:=ur (((ae ((ae ((ai x0 3).1) (IntKind.wrap .i64 ((1:Int)+(IntKind.wrap .i64 (Int.tdiv (IntKind.wrap .i64 (x2-a)) 2))))).1) (IntKind.wrap .i64 ((1:Int)+((ae ((ai x0 3).1) (IntKind.wrap .i64 ((1:Int)+(IntKind.wrap .i64 (Int.tdiv (IntKind.wrap .i64 (x2-a)) 2))))).2)))).1).f0) (((ae ((ae ((ai x0 3).1) (IntKind.wrap .i64 ((1:Int)+(IntKind.wrap .i64 (Int.tdiv (IntKind.wrap .i64 (x2-a)) 2))))).1) (IntKind.wrap .i64 ((1:Int)+((ae ((ai x0 3).1) (IntKind.wrap .i64 ((1:Int)+(IntKind.wrap .i64 (Int.tdiv (IntKind.wrap .i64 (x2-a)) 2))))).2)))).1).f1) (((ae ((ae ((ai x0 3).1) (IntKind.wrap .i64 ((1:Int)+(IntKind.wrap .i64 (Int.tdiv (IntKind.wrap .i64 (x2-a)) 2))))).1) (IntKind.wrap .i64 ((1:Int)+((ae ((ai x0 3).1) (IntKind.wrap .i64 ((1:Int)+(IntKind.wrap .i64 (Int.tdiv (IntKind.wrap .i64 (x2-a)) 2))))).2)))).1).f2) x2 (IntKind.wrap .i64 ((1:Int)+((ae ((ai x0 3).1) (IntKind.wrap .i64 ((1:Int)+(IntKind.wrap .i64 (Int.tdiv (IntKind.wrap .i64 (x2-a)) 2))))).2))) 9223372036854775808 ([]) (IntKind.wrap .i64 (a+((ae ((ae ((ai x0 3).1) (IntKind.wrap .i64 ((1:Int)+(IntKind.wrap .i64 (Int.tdiv (IntKind.wrap .i64 (x2-a)) 2))))).1) (IntKind.wrap .i64 ((1:Int)+((ae ((ai x0 3).1) (IntKind.wrap .i64 ((1:Int)+(IntKind.wrap .i64 (Int.tdiv (IntKind.wrap .i64 (x2-a)) 2))))).2)))).2))) y c;cases y with
  |x2 b =>
   have n:=c;apply DR;intro o;apply DR;intro q;apply DO<;>intro d
   ·apply DR;intro i;exact DL (DS (rs:=[(true,Pl01Cur.t .far ((ai ((ae ((ae ((ai x0 3).1) (IntKind.wrap .i64 ((1:Int)+(IntKind.wrap .i64 (Int.tdiv (IntKind.wrap .i64 (x2-a)) 2))))).1) (IntKind.wrap .i64 ((1:Int)+((ae ((ai x0 3).1) (IntKind.wrap .i64 ((1:Int)+(IntKind.wrap .i64 (Int.tdiv (IntKind.wrap .i64 (x2-a)) 2))))).2)))).1) 2).1)),(false,[Ec 1 (((b.map etI).drop (0+(0:Int).toNat)).take ((1:Int).toNat-(0:Int).toNat))])]) (DP Try.f32 [.ret [(true,Pl01Cur.t .far ((ai x0 3).1)),D5 false],.ret [(true,Pl01Cur.t .far ((ae ((ai x0 3).1) (IntKind.wrap .i64 ((1:Int)+(IntKind.wrap .i64 (Int.tdiv (IntKind.wrap .i64 (x2-a)) 2))))).1)),DZ ((ae ((ai x0 3).1) (IntKind.wrap .i64 ((1:Int)+(IntKind.wrap .i64 (Int.tdiv (IntKind.wrap .i64 (x2-a)) 2))))).2)],.ret [(true,Pl01Cur.t .far ((ae ((ae ((ai x0 3).1) (IntKind.wrap .i64 ((1:Int)+(IntKind.wrap .i64 (Int.tdiv (IntKind.wrap .i64 (x2-a)) 2))))).1) (IntKind.wrap .i64 ((1:Int)+((ae ((ai x0 3).1) (IntKind.wrap .i64 ((1:Int)+(IntKind.wrap .i64 (Int.tdiv (IntKind.wrap .i64 (x2-a)) 2))))).2)))).1)),DZ ((ae ((ae ((ai x0 3).1) (IntKind.wrap .i64 ((1:Int)+(IntKind.wrap .i64 (Int.tdiv (IntKind.wrap .i64 (x2-a)) 2))))).1) (IntKind.wrap .i64 ((1:Int)+((ae ((ai x0 3).1) (IntKind.wrap .i64 ((1:Int)+(IntKind.wrap .i64 (Int.tdiv (IntKind.wrap .i64 (x2-a)) 2))))).2)))).2)],.lp (.exit 2) (gF (((ae ((ae ((ai x0 3).1) (IntKind.wrap .i64 ((1:Int)+(IntKind.wrap .i64 (Int.tdiv (IntKind.wrap .i64 (x2-a)) 2))))).1) (IntKind.wrap .i64 ((1:Int)+((ae ((ai x0 3).1) (IntKind.wrap .i64 ((1:Int)+(IntKind.wrap .i64 (Int.tdiv (IntKind.wrap .i64 (x2-a)) 2))))).2)))).1).f0) (((ae ((ae ((ai x0 3).1) (IntKind.wrap .i64 ((1:Int)+(IntKind.wrap .i64 (Int.tdiv (IntKind.wrap .i64 (x2-a)) 2))))).1) (IntKind.wrap .i64 ((1:Int)+((ae ((ai x0 3).1) (IntKind.wrap .i64 ((1:Int)+(IntKind.wrap .i64 (Int.tdiv (IntKind.wrap .i64 (x2-a)) 2))))).2)))).1).f1) (((ae ((ae ((ai x0 3).1) (IntKind.wrap .i64 ((1:Int)+(IntKind.wrap .i64 (Int.tdiv (IntKind.wrap .i64 (x2-a)) 2))))).1) (IntKind.wrap .i64 ((1:Int)+((ae ((ai x0 3).1) (IntKind.wrap .i64 ((1:Int)+(IntKind.wrap .i64 (Int.tdiv (IntKind.wrap .i64 (x2-a)) 2))))).2)))).1).f2) b),.ret [(true,Pl01Cur.t .far ((ai ((ae ((ae ((ai x0 3).1) (IntKind.wrap .i64 ((1:Int)+(IntKind.wrap .i64 (Int.tdiv (IntKind.wrap .i64 (x2-a)) 2))))).1) (IntKind.wrap .i64 ((1:Int)+((ae ((ai x0 3).1) (IntKind.wrap .i64 ((1:Int)+(IntKind.wrap .i64 (Int.tdiv (IntKind.wrap .i64 (x2-a)) 2))))).2)))).1) 2).1)),D5 true]] (AV (ψ:=fun k=>E.C k 43 [.box () (Pl01Cur.t .far x0),D7 (3:Int)]=some [(true,Pl01Cur.t .far ((ai x0 3).1)),D5 false]) (DS (gL x0 3 f g) (by rw[h]))<|AV (ψ:=fun k=>E.C k 20 [.box () (Pl01Cur.t .far ((ai x0 3).1)),D7 (IntKind.wrap .i64 ((1:Int)+(IntKind.wrap .i64 (Int.tdiv (IntKind.wrap .i64 (x2-a)) 2))))]=some [(true,Pl01Cur.t .far ((ae ((ai x0 3).1) (IntKind.wrap .i64 ((1:Int)+(IntKind.wrap .i64 (Int.tdiv (IntKind.wrap .i64 (x2-a)) 2))))).1)),DZ ((ae ((ai x0 3).1) (IntKind.wrap .i64 ((1:Int)+(IntKind.wrap .i64 (Int.tdiv (IntKind.wrap .i64 (x2-a)) 2))))).2)]) (dJ ((ai x0 3).1) (IntKind.wrap .i64 ((1:Int)+(IntKind.wrap .i64 (Int.tdiv (IntKind.wrap .i64 (x2-a)) 2)))) e j)<|AV (ψ:=fun k=>E.C k 20 [.box () (Pl01Cur.t .far ((ae ((ai x0 3).1) (IntKind.wrap .i64 ((1:Int)+(IntKind.wrap .i64 (Int.tdiv (IntKind.wrap .i64 (x2-a)) 2))))).1)),D7 (IntKind.wrap .i64 ((1:Int)+((ae ((ai x0 3).1) (IntKind.wrap .i64 ((1:Int)+(IntKind.wrap .i64 (Int.tdiv (IntKind.wrap .i64 (x2-a)) 2))))).2)))]=some [(true,Pl01Cur.t .far ((ae ((ae ((ai x0 3).1) (IntKind.wrap .i64 ((1:Int)+(IntKind.wrap .i64 (Int.tdiv (IntKind.wrap .i64 (x2-a)) 2))))).1) (IntKind.wrap .i64 ((1:Int)+((ae ((ai x0 3).1) (IntKind.wrap .i64 ((1:Int)+(IntKind.wrap .i64 (Int.tdiv (IntKind.wrap .i64 (x2-a)) 2))))).2)))).1)),DZ ((ae ((ae ((ai x0 3).1) (IntKind.wrap .i64 ((1:Int)+(IntKind.wrap .i64 (Int.tdiv (IntKind.wrap .i64 (x2-a)) 2))))).1) (IntKind.wrap .i64 ((1:Int)+((ae ((ai x0 3).1) (IntKind.wrap .i64 ((1:Int)+(IntKind.wrap .i64 (Int.tdiv (IntKind.wrap .i64 (x2-a)) 2))))).2)))).2)]) (dJ ((ae ((ai x0 3).1) (IntKind.wrap .i64 ((1:Int)+(IntKind.wrap .i64 (Int.tdiv (IntKind.wrap .i64 (x2-a)) 2))))).1) (IntKind.wrap .i64 ((1:Int)+((ae ((ai x0 3).1) (IntKind.wrap .i64 ((1:Int)+(IntKind.wrap .i64 (Int.tdiv (IntKind.wrap .i64 (x2-a)) 2))))).2))) l m)<|AL n<|AV (ψ:=fun k=>E.C k 43 [.box () (Pl01Cur.t .far ((ae ((ae ((ai x0 3).1) (IntKind.wrap .i64 ((1:Int)+(IntKind.wrap .i64 (Int.tdiv (IntKind.wrap .i64 (x2-a)) 2))))).1) (IntKind.wrap .i64 ((1:Int)+((ae ((ai x0 3).1) (IntKind.wrap .i64 ((1:Int)+(IntKind.wrap .i64 (Int.tdiv (IntKind.wrap .i64 (x2-a)) 2))))).2)))).1)),D7 (2:Int)]=some [(true,Pl01Cur.t .far ((ai ((ae ((ae ((ai x0 3).1) (IntKind.wrap .i64 ((1:Int)+(IntKind.wrap .i64 (Int.tdiv (IntKind.wrap .i64 (x2-a)) 2))))).1) (IntKind.wrap .i64 ((1:Int)+((ae ((ai x0 3).1) (IntKind.wrap .i64 ((1:Int)+(IntKind.wrap .i64 (Int.tdiv (IntKind.wrap .i64 (x2-a)) 2))))).2)))).1) 2).1)),D5 true]) (DS (gL ((ae ((ae ((ai x0 3).1) (IntKind.wrap .i64 ((1:Int)+(IntKind.wrap .i64 (Int.tdiv (IntKind.wrap .i64 (x2-a)) 2))))).1) (IntKind.wrap .i64 ((1:Int)+((ae ((ai x0 3).1) (IntKind.wrap .i64 ((1:Int)+(IntKind.wrap .i64 (Int.tdiv (IntKind.wrap .i64 (x2-a)) 2))))).2)))).1) 2 o q) (by rw[d]))<|AC (p:=0≤(0:Int)∧(0:Int)≤(1:Int)∧(1:Int)≤((b.map etI).length:Int)) (Ai i)<|AN)) (by simp only[FI,zD]))
   ·exact DL (DP Try.f32 [.ret [(true,Pl01Cur.t .far ((ai x0 3).1)),D5 false],.ret [(true,Pl01Cur.t .far ((ae ((ai x0 3).1) (IntKind.wrap .i64 ((1:Int)+(IntKind.wrap .i64 (Int.tdiv (IntKind.wrap .i64 (x2-a)) 2))))).1)),DZ ((ae ((ai x0 3).1) (IntKind.wrap .i64 ((1:Int)+(IntKind.wrap .i64 (Int.tdiv (IntKind.wrap .i64 (x2-a)) 2))))).2)],.ret [(true,Pl01Cur.t .far ((ae ((ae ((ai x0 3).1) (IntKind.wrap .i64 ((1:Int)+(IntKind.wrap .i64 (Int.tdiv (IntKind.wrap .i64 (x2-a)) 2))))).1) (IntKind.wrap .i64 ((1:Int)+((ae ((ai x0 3).1) (IntKind.wrap .i64 ((1:Int)+(IntKind.wrap .i64 (Int.tdiv (IntKind.wrap .i64 (x2-a)) 2))))).2)))).1)),DZ ((ae ((ae ((ai x0 3).1) (IntKind.wrap .i64 ((1:Int)+(IntKind.wrap .i64 (Int.tdiv (IntKind.wrap .i64 (x2-a)) 2))))).1) (IntKind.wrap .i64 ((1:Int)+((ae ((ai x0 3).1) (IntKind.wrap .i64 ((1:Int)+(IntKind.wrap .i64 (Int.tdiv (IntKind.wrap .i64 (x2-a)) 2))))).2)))).2)],.lp (.exit 2) (gF (((ae ((ae ((ai x0 3).1) (IntKind.wrap .i64 ((1:Int)+(IntKind.wrap .i64 (Int.tdiv (IntKind.wrap .i64 (x2-a)) 2))))).1) (IntKind.wrap .i64 ((1:Int)+((ae ((ai x0 3).1) (IntKind.wrap .i64 ((1:Int)+(IntKind.wrap .i64 (Int.tdiv (IntKind.wrap .i64 (x2-a)) 2))))).2)))).1).f0) (((ae ((ae ((ai x0 3).1) (IntKind.wrap .i64 ((1:Int)+(IntKind.wrap .i64 (Int.tdiv (IntKind.wrap .i64 (x2-a)) 2))))).1) (IntKind.wrap .i64 ((1:Int)+((ae ((ai x0 3).1) (IntKind.wrap .i64 ((1:Int)+(IntKind.wrap .i64 (Int.tdiv (IntKind.wrap .i64 (x2-a)) 2))))).2)))).1).f1) (((ae ((ae ((ai x0 3).1) (IntKind.wrap .i64 ((1:Int)+(IntKind.wrap .i64 (Int.tdiv (IntKind.wrap .i64 (x2-a)) 2))))).1) (IntKind.wrap .i64 ((1:Int)+((ae ((ai x0 3).1) (IntKind.wrap .i64 ((1:Int)+(IntKind.wrap .i64 (Int.tdiv (IntKind.wrap .i64 (x2-a)) 2))))).2)))).1).f2) b),.ret [(true,Pl01Cur.t .far ((ai ((ae ((ae ((ai x0 3).1) (IntKind.wrap .i64 ((1:Int)+(IntKind.wrap .i64 (Int.tdiv (IntKind.wrap .i64 (x2-a)) 2))))).1) (IntKind.wrap .i64 ((1:Int)+((ae ((ai x0 3).1) (IntKind.wrap .i64 ((1:Int)+(IntKind.wrap .i64 (Int.tdiv (IntKind.wrap .i64 (x2-a)) 2))))).2)))).1) 2).1)),D5 false]] (AV (ψ:=fun k=>E.C k 43 [.box () (Pl01Cur.t .far x0),D7 (3:Int)]=some [(true,Pl01Cur.t .far ((ai x0 3).1)),D5 false]) (DS (gL x0 3 f g) (by rw[h]))<|AV (ψ:=fun k=>E.C k 20 [.box () (Pl01Cur.t .far ((ai x0 3).1)),D7 (IntKind.wrap .i64 ((1:Int)+(IntKind.wrap .i64 (Int.tdiv (IntKind.wrap .i64 (x2-a)) 2))))]=some [(true,Pl01Cur.t .far ((ae ((ai x0 3).1) (IntKind.wrap .i64 ((1:Int)+(IntKind.wrap .i64 (Int.tdiv (IntKind.wrap .i64 (x2-a)) 2))))).1)),DZ ((ae ((ai x0 3).1) (IntKind.wrap .i64 ((1:Int)+(IntKind.wrap .i64 (Int.tdiv (IntKind.wrap .i64 (x2-a)) 2))))).2)]) (dJ ((ai x0 3).1) (IntKind.wrap .i64 ((1:Int)+(IntKind.wrap .i64 (Int.tdiv (IntKind.wrap .i64 (x2-a)) 2)))) e j)<|AV (ψ:=fun k=>E.C k 20 [.box () (Pl01Cur.t .far ((ae ((ai x0 3).1) (IntKind.wrap .i64 ((1:Int)+(IntKind.wrap .i64 (Int.tdiv (IntKind.wrap .i64 (x2-a)) 2))))).1)),D7 (IntKind.wrap .i64 ((1:Int)+((ae ((ai x0 3).1) (IntKind.wrap .i64 ((1:Int)+(IntKind.wrap .i64 (Int.tdiv (IntKind.wrap .i64 (x2-a)) 2))))).2)))]=some [(true,Pl01Cur.t .far ((ae ((ae ((ai x0 3).1) (IntKind.wrap .i64 ((1:Int)+(IntKind.wrap .i64 (Int.tdiv (IntKind.wrap .i64 (x2-a)) 2))))).1) (IntKind.wrap .i64 ((1:Int)+((ae ((ai x0 3).1) (IntKind.wrap .i64 ((1:Int)+(IntKind.wrap .i64 (Int.tdiv (IntKind.wrap .i64 (x2-a)) 2))))).2)))).1)),DZ ((ae ((ae ((ai x0 3).1) (IntKind.wrap .i64 ((1:Int)+(IntKind.wrap .i64 (Int.tdiv (IntKind.wrap .i64 (x2-a)) 2))))).1) (IntKind.wrap .i64 ((1:Int)+((ae ((ai x0 3).1) (IntKind.wrap .i64 ((1:Int)+(IntKind.wrap .i64 (Int.tdiv (IntKind.wrap .i64 (x2-a)) 2))))).2)))).2)]) (dJ ((ae ((ai x0 3).1) (IntKind.wrap .i64 ((1:Int)+(IntKind.wrap .i64 (Int.tdiv (IntKind.wrap .i64 (x2-a)) 2))))).1) (IntKind.wrap .i64 ((1:Int)+((ae ((ai x0 3).1) (IntKind.wrap .i64 ((1:Int)+(IntKind.wrap .i64 (Int.tdiv (IntKind.wrap .i64 (x2-a)) 2))))).2))) l m)<|AL n<|AV (ψ:=fun k=>E.C k 43 [.box () (Pl01Cur.t .far ((ae ((ae ((ai x0 3).1) (IntKind.wrap .i64 ((1:Int)+(IntKind.wrap .i64 (Int.tdiv (IntKind.wrap .i64 (x2-a)) 2))))).1) (IntKind.wrap .i64 ((1:Int)+((ae ((ai x0 3).1) (IntKind.wrap .i64 ((1:Int)+(IntKind.wrap .i64 (Int.tdiv (IntKind.wrap .i64 (x2-a)) 2))))).2)))).1)),D7 (2:Int)]=some [(true,Pl01Cur.t .far ((ai ((ae ((ae ((ai x0 3).1) (IntKind.wrap .i64 ((1:Int)+(IntKind.wrap .i64 (Int.tdiv (IntKind.wrap .i64 (x2-a)) 2))))).1) (IntKind.wrap .i64 ((1:Int)+((ae ((ai x0 3).1) (IntKind.wrap .i64 ((1:Int)+(IntKind.wrap .i64 (Int.tdiv (IntKind.wrap .i64 (x2-a)) 2))))).2)))).1) 2).1)),D5 false]) (DS (gL ((ae ((ae ((ai x0 3).1) (IntKind.wrap .i64 ((1:Int)+(IntKind.wrap .i64 (Int.tdiv (IntKind.wrap .i64 (x2-a)) 2))))).1) (IntKind.wrap .i64 ((1:Int)+((ae ((ai x0 3).1) (IntKind.wrap .i64 ((1:Int)+(IntKind.wrap .i64 (Int.tdiv (IntKind.wrap .i64 (x2-a)) 2))))).2)))).1) 2 o q) (by rw[d]))<|AN))
theorem wj (b:Int)(hb:b≤100):∀(m n:Nat)(v:List Int)(x:Int),(b+1-x).toNat=m→m<n→0≤x→v.length+m≤1000→∃l,dT b n v x=some (.x0 l)∧l.length=v.length+m
 |m,0,v,x,_,a,_,_=>by omega
 | 0,n+1,v,x,c,_,_,_=>by unfold dT;rw[EA (by omega),EP];exact⟨v,rfl,rfl⟩
 |m+1,n+1,v,x,c,a,f,g=>by have hi:inc x=x+1:=dP x (by omega) (by omega);obtain⟨l,d,e⟩:=wj b hb m n (v++[x]) (x+1) (by omega) (by omega) (by omega) (by rw[Fo,E2];omega);unfold dT;rw[EC (by omega),EG,Ej (by rw[E2];omega),hi,d];exact⟨l,rfl,by rw[e,Fo,E2];omega⟩
theorem wk (b s:Int)(hb:b≤100)(hs:1≤s∧s≤200):∀(m n:Nat)(v:List Int)(x:Int),(b+1-x).toNat≤m→m<n→0≤x→x≤1000→v.length+m≤1000 →
  ∃l,dU b s n v x=some (.x2 l)∧v.length≤l.length∧l.length≤v.length+m∧(x≤b→v.length<l.length)
 |m,0,v,x,_,a,_,_,_=>by omega
 | 0,n+1,v,x,c,_,_,_,_=>by unfold dU;rw[EA (by omega),EP];exact⟨v,rfl,EQ _,EQ _,fun q=>by omega⟩
 |m+1,n+1,v,x,c,a,j,d,k=>by
  unfold dU;by_cases q:x≤b
  ·have e:IntKind.wrap .i64 (x+s)=x+s:=aF _ (by omega) (by omega);obtain⟨l,f,h,i,o⟩:=wk b s hb hs m n (v++[x]) (x+s) (by omega) (by omega) (by omega) (by omega) (by rw[Fo,E2];omega);rw[Fo,E2]at h i;rw[EC q,EG,Ej (by rw[E2];omega),e,f];exact⟨l,rfl,by omega,by omega,fun _=>by omega⟩
  ·rw[EA q,EP];exact⟨v,rfl,EQ _,by omega,fun g=>absurd g q⟩
noncomputable def ak (c:Pl01Cur)(a b:Int):Pl01Cur×List Int:=(fR c a b).getD (c,[])
theorem ky (c:Pl01Cur)(a b:Int)(h:bc c)(d:0≤a∧a≤b∧b≤100):fR c a b=some (ak c a b)∧bc (ak c a b).1∧(ak c a b).2.length≤1000:=by
 have e:∃r,fR c a b=some r∧bc r.1∧r.2.length≤1000:=by
  have t:(3:Int)≤1000000000:=by omega
  have u:(2:Int)≤1000000000:=by omega
  obtain⟨-,g⟩:=qJ c 3 h t;have i:IntKind.wrap .i64 (b-a)=b-a:=aF _ (by omega) (by omega);have hd:0≤Int.tdiv (b-a) 2∧Int.tdiv (b-a) 2≤b-a:=by rw[E1 (by omega)];omega
  have z:2*Int.tdiv (b-a) 2≤b-a:=by rw[E1 (by omega)];omega
  have j:IntKind.wrap .i64 (Int.tdiv (b-a) 2)=Int.tdiv (b-a) 2:=aF _ (by omega) (by omega);have k:IntKind.wrap .i64 (1+Int.tdiv (b-a) 2)=1+Int.tdiv (b-a) 2:=aF _ (by omega) (by omega);have A:1+Int.tdiv (b-a) 2≤1000000000:=by omega
  obtain⟨-,v,P,C⟩:=jk (ai c 3).1 (1+Int.tdiv (b-a) 2) g;have D:=C (by omega);generalize F:ae (ai c 3).1 (1+Int.tdiv (b-a) 2)=B at *;have l:IntKind.wrap .i64 (1+B.2)=1+B.2:=aF _ (by omega) (by omega);have m:1+B.2≤1000000000:=by omega
  obtain⟨-,w,Q,G⟩:=jk B.1 (1+B.2) v;have H:=G (by omega);generalize n:ae B.1 (1+B.2)=f at *;have o:IntKind.wrap .i64 (a+f.2)=a+f.2:=aF _ (by omega) (by omega);obtain⟨-,x⟩:=qJ f.1 2 w u;obtain⟨I,J,K⟩:=wj b d.2.2 (b+1-a).toNat 9223372036854775808 [] a rfl (by omega) d.1 (by simp;omega);obtain⟨q,L,R,M,N⟩:=wk b (1+B.2) d.2.2 (by omega) (b+1-(a+f.2)).toNat 9223372036854775808 [] (a+f.2) (EQ _) (by omega) (by omega) (by omega) (by simp;omega);have s:=N (by omega);simp only[Gk]at K M s;unfold fR;simp only[Ej h,Ej t,Ej u,i,j,k,Ej g,Ej A,F,l,Ej v,Ej m,n,o,Ej w,J,L,Eg];cases(ai c 3).2 with
  |true=>exact⟨_,rfl,g,by show I.length≤1000;omega⟩
  |false =>
   have hc:0≤(0:Int)∧(0:Int)≤(1:Int)∧(1:Int)≤(q.length:Int):=by omega
   simp only[EP,Ej hc];cases(ai f.1 2).2 with
   |true=>exact⟨_,rfl,x,by show((q.drop _).take _).length≤1000;rw[List.length_take,List.length_drop];omega⟩
   |false=>exact⟨_,rfl,x,by show q.length≤1000;omega⟩
 obtain⟨r,y,O⟩:=e;have p:ak c a b=r:=by unfold ak;rw[y];rfl
 rw[p];exact⟨y,O⟩
theorem gM (c:Pl01Cur)(a:Int)(b:Int)(h:bc c)(d:0≤a∧a≤b∧b≤100):Does E 32 [.box () (Pl01Cur.t .far c),D7 a,D7 b] [(true,Pl01Cur.t .far ((ak c a b).1)),(false,[Ec 1 (((ak c a b).2).map etI)])]:=by exact vD c a b _ (ky c a b h d).1
noncomputable def fQ (a:Pl01Cur):Option (Pl01Cur×GCron):=if bc a then if 0≤(0:Int)∧(0:Int)≤(59:Int)∧(59:Int)≤100 then if bc ((ak a 0 59).1)then if 0≤(0:Int)∧(0:Int)≤(23:Int)∧(23:Int)≤100 then if bc ((ak ((ak a 0 59).1) 0 23).1)then if 0≤(1:Int)∧(1:Int)≤(31:Int)∧(31:Int)≤100 then if bc ((ak ((ak ((ak a 0 59).1) 0 23).1) 1 31).1)then if 0≤(1:Int)∧(1:Int)≤(12:Int)∧(12:Int)≤100 then if bc ((ak ((ak ((ak ((ak a 0 59).1) 0 23).1) 1 31).1) 1 12).1)then if 0≤(0:Int)∧(0:Int)≤(6:Int)∧(6:Int)≤100 then some (((ak ((ak ((ak ((ak ((ak a 0 59).1) 0 23).1) 1 31).1) 1 12).1) 0 6).1),(GCron.mk ((ak a 0 59).2) ((ak ((ak a 0 59).1) 0 23).2) ((ak ((ak ((ak a 0 59).1) 0 23).1) 1 31).2) ((ak ((ak ((ak ((ak a 0 59).1) 0 23).1) 1 31).1) 1 12).2) ((ak ((ak ((ak ((ak ((ak a 0 59).1) 0 23).1) 1 31).1) 1 12).1) 0 6).2)))else none else none else none else none else none else none else none else none else none else none
theorem vB (a:Pl01Cur):Ans (fQ a) (fun r=>Does E 19 [.box () (Pl01Cur.t .far a)] [(true,Pl01Cur.t .far r.1),(true,DX .own r.2)]):=by unfold fQ;apply DR;intro b;apply DR;intro c;apply DR;intro d;apply DR;intro e;apply DR;intro f;apply DR;intro g;apply DR;intro h;apply DR;intro i;apply DR;intro j;apply DR;intro l;exact DL (DP Try.f19 [.ret [(true,Pl01Cur.t .far ((ak a 0 59).1)),(false,[Ec 1 (((ak a 0 59).2).map etI)])],.ret [(true,Pl01Cur.t .far ((ak ((ak a 0 59).1) 0 23).1)),(false,[Ec 1 (((ak ((ak a 0 59).1) 0 23).2).map etI)])],.ret [(true,Pl01Cur.t .far ((ak ((ak ((ak a 0 59).1) 0 23).1) 1 31).1)),(false,[Ec 1 (((ak ((ak ((ak a 0 59).1) 0 23).1) 1 31).2).map etI)])],.ret [(true,Pl01Cur.t .far ((ak ((ak ((ak ((ak a 0 59).1) 0 23).1) 1 31).1) 1 12).1)),(false,[Ec 1 (((ak ((ak ((ak ((ak a 0 59).1) 0 23).1) 1 31).1) 1 12).2).map etI)])],.ret [(true,Pl01Cur.t .far ((ak ((ak ((ak ((ak ((ak a 0 59).1) 0 23).1) 1 31).1) 1 12).1) 0 6).1)),(false,[Ec 1 (((ak ((ak ((ak ((ak ((ak a 0 59).1) 0 23).1) 1 31).1) 1 12).1) 0 6).2).map etI)])]] (AV (ψ:=fun k=>E.C k 32 [.box () (Pl01Cur.t .far a),D7 0,D7 (59:Int)]=some [(true,Pl01Cur.t .far ((ak a 0 59).1)),(false,[Ec 1 (((ak a 0 59).2).map etI)])]) (gM a 0 59 b c)<|AV (ψ:=fun k=>E.C k 32 [.box () (Pl01Cur.t .far ((ak a 0 59).1)),D7 0,D7 (23:Int)]=some [(true,Pl01Cur.t .far ((ak ((ak a 0 59).1) 0 23).1)),(false,[Ec 1 (((ak ((ak a 0 59).1) 0 23).2).map etI)])]) (gM ((ak a 0 59).1) 0 23 d e)<|AV (ψ:=fun k=>E.C k 32 [.box () (Pl01Cur.t .far ((ak ((ak a 0 59).1) 0 23).1)),D7 1,D7 (31:Int)]=some [(true,Pl01Cur.t .far ((ak ((ak ((ak a 0 59).1) 0 23).1) 1 31).1)),(false,[Ec 1 (((ak ((ak ((ak a 0 59).1) 0 23).1) 1 31).2).map etI)])]) (gM ((ak ((ak a 0 59).1) 0 23).1) 1 31 f g)<|AV (ψ:=fun k=>E.C k 32 [.box () (Pl01Cur.t .far ((ak ((ak ((ak a 0 59).1) 0 23).1) 1 31).1)),D7 1,D7 (12:Int)]=some [(true,Pl01Cur.t .far ((ak ((ak ((ak ((ak a 0 59).1) 0 23).1) 1 31).1) 1 12).1)),(false,[Ec 1 (((ak ((ak ((ak ((ak a 0 59).1) 0 23).1) 1 31).1) 1 12).2).map etI)])]) (gM ((ak ((ak ((ak a 0 59).1) 0 23).1) 1 31).1) 1 12 h i)<|AV (ψ:=fun k=>E.C k 32 [.box () (Pl01Cur.t .far ((ak ((ak ((ak ((ak a 0 59).1) 0 23).1) 1 31).1) 1 12).1)),D7 0,D7 (6:Int)]=some [(true,Pl01Cur.t .far ((ak ((ak ((ak ((ak ((ak a 0 59).1) 0 23).1) 1 31).1) 1 12).1) 0 6).1)),(false,[Ec 1 (((ak ((ak ((ak ((ak ((ak a 0 59).1) 0 23).1) 1 31).1) 1 12).1) 0 6).2).map etI)])]) (gM ((ak ((ak ((ak ((ak a 0 59).1) 0 23).1) 1 31).1) 1 12).1) 0 6 j l)<|AN))
noncomputable def bO (c:Pl01Cur):Pl01Cur×GCron:=(fQ c).getD (c,⟨[],[],[],[],[]⟩)
theorem vM (c:Pl01Cur)(h:bc c):fQ c=some (bO c)∧bc (bO c).1∧aA.sm (bO c).2:=by
 have d:0≤(0:Int)∧(0:Int)≤59∧(59:Int)≤100:=by omega
 have f:0≤(0:Int)∧(0:Int)≤23∧(23:Int)≤100:=by omega
 have g:0≤(1:Int)∧(1:Int)≤31∧(31:Int)≤100:=by omega
 have i:0≤(1:Int)∧(1:Int)≤12∧(12:Int)≤100:=by omega
 have j:0≤(0:Int)∧(0:Int)≤6∧(6:Int)≤100:=by omega
 have e:∃r,fQ c=some r∧bc r.1∧aA.sm r.2:=by
  obtain⟨-,k,q⟩:=ky c 0 59 h d;obtain⟨-,m,s⟩:=ky _ 0 23 k f;obtain⟨-,n,t⟩:=ky _ 1 31 m g;obtain⟨-,o,u⟩:=ky _ 1 12 n i;obtain⟨-,a,b⟩:=ky _ 0 6 o j;have sm:∀{l:List Int},l.length≤1000→aA.sm l:=fun h=>⟨by omega,fun y v=>trivial⟩
  unfold fQ;simp only[Ej h,Ej d,Ej f,Ej g,Ej i,Ej j,Ej k,Ej m,Ej n,Ej o];exact⟨_,rfl,a,sm q,sm s,sm t,sm u,sm b⟩
 obtain⟨r,a,b⟩:=e;have p:bO c=r:=by unfold bO;rw[a];rfl
 rw[p];exact⟨a,b⟩
theorem uO (a:Pl01Cur)(h:bc a):Does E 19 [.box () (Pl01Cur.t .far a)] [(true,Pl01Cur.t .far ((bO a).1)),(true,DX .own ((bO a).2))]:=by exact vB a _ (vM a h).1
noncomputable def iZ (a:List Int):Option (GCron×Int):=if a.length≤1050000 then if bc (aT a)then if bc ((bO (aT a)).1)then if(60000000:Int)≤1000000000 then some (((bO (aT a)).2),(ae ((bO (aT a)).1) 60000000).2)else none else none else none else none
theorem ug (a:List Int):Ans (iZ a) (fun r=>Does E 6 [.one (Ed 1 (a.map etY))] [(true,DX .own r.1),DZ r.2]):=by unfold iZ;apply DR;intro b;apply DR;intro c;apply DR;intro d;apply DR;intro e;exact DL (DP Try.f6 [.ret [(false,Ec 3 [(Pl01Cur.t .far (aT a)).map T.holeF]:: .any::(Pl01Cur.t .far (aT a)).filter T.isFar)],.ret [(true,Pl01Cur.t .far ((bO (aT a)).1)),(true,DX .own ((bO (aT a)).2))],.ret [(true,Pl01Cur.t .far ((ae ((bO (aT a)).1) 60000000).1)),DZ ((ae ((bO (aT a)).1) 60000000).2)]] (AD (pE a b)<|AV (ψ:=fun k=>E.C k 19 [.box () (Pl01Cur.t .far (aT a))]=some [(true,Pl01Cur.t .far ((bO (aT a)).1)),(true,DX .own ((bO (aT a)).2))]) (uO (aT a) c)<|AV (ψ:=fun k=>E.C k 20 [.box () (Pl01Cur.t .far ((bO (aT a)).1)),D7 (60000000:Int)]=some [(true,Pl01Cur.t .far ((ae ((bO (aT a)).1) 60000000).1)),DZ ((ae ((bO (aT a)).1) 60000000).2)]) (dJ ((bO (aT a)).1) 60000000 d e)<|AN))
noncomputable def aa (x:List Int):GCron×Int:=((bO (aT x)).2,(ae (bO (aT x)).1 60000000).2)
theorem oH (x:List Int)(h:x.length≤1050000):iZ x=some (aa x)∧aA.sm (aa x).1∧0≤(aa x).2∧(aa x).2<60000000:=by
 obtain⟨-,a⟩:=tU x h;obtain⟨-,b,c⟩:=vM _ a;have d:(60000000:Int)≤1000000000:=by omega
 obtain⟨-,g,e,f⟩:=jk _ 60000000 b;unfold iZ;simp only[Ej h,Ej a,Ej b,Ej d];exact⟨rfl,c,e,f (by omega)⟩
theorem a0 (a:List Int)(h:a.length≤1050000):Does E 6 [.one (Ed 1 (a.map etY))] [(true,DX .own ((aa a).1)),DZ ((aa a).2)]:=by exact ug a _ (oH a h).1
inductive lh where|x0 (v4:List Int)
def fZ (v4:List Int)(v5:Int)(a:List Int)(b c:Int):US:=stL 21 [(3,.pb 7 0),(4,.one (Ec 1 (v4.map etI))),(5,D7 v5),(7,.box () [Ed 1 (a.map etY),tI b,tI c])]
def gI (a:List Int):US:=stL 21 [(4,.one (Ec 1 (a.map etI)))]
abbrev lg:US→Exit→US→Prop:=Round E 7 (aI Try.f7 0)
def ql (v4:List Int)(v5:Int)(a:List Int)(b c:Int):lh→Prop| .x0 d=>Loops E 7 (aI Try.f7 0) (fZ v4 v5 a b c) (.exit 0) (gI d)
noncomputable def cS  : Nat→(List Int)→Int→(List Int)→Int→Int→Option lh| 0,_,_,_,_,_=>none|n+1,v4,v5,a,b,c=>cond (decide (v5<(12:Int))) (if bc (Pl01Cur.mk a b c)then if(10000:Int)≤1000000000 then if(v4.length+([(ae (Pl01Cur.mk a b c) 10000).2]).length)*8≤140737488355328∧v4.length+([(ae (Pl01Cur.mk a b c) 10000).2]).length≤4611686018427387904 then cS n (v4++([(ae (Pl01Cur.mk a b c) 10000).2])) (inc v5) (((ae (Pl01Cur.mk a b c) 10000).1).f0) (((ae (Pl01Cur.mk a b c) 10000).1).f1) (((ae (Pl01Cur.mk a b c) 10000).1).f2)else none else none else none) (some (.x0 v4))
theorem qk  (n:Nat):∀(v4:List Int)(v5:Int)(a:List Int)(b c:Int),Ans (cS n v4 v5 a b c) (ql v4 v5 a b c):=by
 induction n with
 |zero=>intros;exact Ans.none
 |succ n e =>
  intro v4 v5 a b c;unfold cS;apply DO<;>intro d
  ·apply DR;intro f;apply DR;intro g;apply DR;intro h;have r:lg (fZ v4 v5 a b c) .normal (fZ (v4++([(ae (Pl01Cur.mk a b c) 10000).2])) (inc v5) (((ae (Pl01Cur.mk a b c) 10000).1).f0) (((ae (Pl01Cur.mk a b c) 10000).1).f1) (((ae (Pl01Cur.mk a b c) 10000).1).f2)):=RP [.b true,.ret [(true,Pl01Cur.t .far ((ae (Pl01Cur.mk a b c) 10000).1)),DZ ((ae (Pl01Cur.mk a b c) 10000).2)],.rows ((v4++([(ae (Pl01Cur.mk a b c) 10000).2])).map etI)] (AC d<|AV (ψ:=fun k=>E.C k 20 [.box () (Pl01Cur.t .far (Pl01Cur.mk a b c)),D7 (10000:Int)]=some [(true,Pl01Cur.t .far ((ae (Pl01Cur.mk a b c) 10000).1)),DZ ((ae (Pl01Cur.mk a b c) 10000).2)]) (dJ (Pl01Cur.mk a b c) 10000 f g)<|AAp etI (fun _=>rfl) h<|AN);exact(e (v4++([(ae (Pl01Cur.mk a b c) 10000).2])) (inc v5) (((ae (Pl01Cur.mk a b c) 10000).1).f0) (((ae (Pl01Cur.mk a b c) 10000).1).f1) (((ae (Pl01Cur.mk a b c) 10000).1).f2)).mono fun y i=>by cases y<;>exact DM r i
  ·exact DL (DN (show lg (fZ v4 v5 a b c) (.exit 0) (gI v4)from RP [.b false] (AC d<|AN)))
noncomputable def dF (a:List Int):Option ((List Int)):=
  if a.length≤1050000 then if bc (aT a)then(cS 9223372036854775808 ([]) 0 (((ah (aT a)).1).f0) (((ah (aT a)).1).f1) (((ah (aT a)).1).f2)).bind fun y=>match y with
   | .x0 b=>(some (b))else none else none
theorem qN (x0:List Int):Ans (dF x0) (fun r=>Does E 7 [.one (Ed 1 (x0.map etY))] [(false,[Ec 1 (r.map etI)])]):=by
 unfold dF;apply DR;intro c;apply DR;intro d;apply DQ;intro y b;replace b:=qk 9223372036854775808 ([]) 0 (((ah (aT x0)).1).f0) (((ah (aT x0)).1).f1) (((ah (aT x0)).1).f2) y b;cases y with
 |x0 a =>have e:=b;exact DL (DP Try.f7 [.ret [(false,Ec 3 [(Pl01Cur.t .far (aT x0)).map T.holeF]:: .any::(Pl01Cur.t .far (aT x0)).filter T.isFar)],.ret [(true,Pl01Cur.t .far ((ah (aT x0)).1)),DZ ((ah (aT x0)).2)],.lp (.exit 0) (gI a)] (AD (pE x0 c)<|AV (ψ:=fun k=>E.C k 21 [.box () (Pl01Cur.t .far (aT x0))]=some [(true,Pl01Cur.t .far ((ah (aT x0)).1)),DZ ((ah (aT x0)).2)]) (fG (aT x0) d)<|AL e<|AN))
theorem t6:∀(m n:Nat)(v:List Int)(k:Int)(c:Pl01Cur),k+(m:Int)=12→m<n→v.length+m≤1000→0≤k→bc c →
  ∃l,cS n v k c.f0 c.f1 c.f2=some (.x0 l)∧l.length=v.length+m∧∀x∈l,x∈v∨0≤x∧x<10000
 |m,0,v,k,c,_,e,_,_,_=>by omega
 | 0,n+1,v,k,c,f,_,_,_,_=>by unfold cS;rw[EA (by omega),EP];exact⟨v,rfl,rfl,fun x a=>.inl a⟩
 |m+1,n+1,v,k,c,f,e,s,t,hc=>by
  have hi:inc k=k+1:=dP k (by omega) (by omega);have g:(10000:Int)≤1000000000:=by omega
  obtain⟨-,h,i,j⟩:=jk c 10000 hc;have b:=j (by omega);have d:bc (Pl01Cur.mk c.f0 c.f1 c.f2):=hc;obtain⟨l,o,p,r⟩:=t6 m n (v++[(ae c 10000).2]) (k+1) (ae c 10000).1 (by omega) (by omega) (by rw[Fo,E2];omega) (by omega) h;unfold cS;rw[EC (by omega),EG];simp only[Ej d,Ej g];rw[show Pl01Cur.mk c.f0 c.f1 c.f2=c from rfl,Ej (by rw[E2];omega),hi,o];refine⟨l,rfl,by rw[p,Fo,E2];omega,fun x a=>?_⟩;rcases r x a with q|q
  ·rcases EI.1 q with q|q
   ·exact .inl q
   ·rw[Er]at q;subst q;exact .inr ⟨i,b⟩
  ·exact .inr q
noncomputable def aN (x:List Int):List Int:=(dF x).getD []
theorem mP (x:List Int)(h:x.length≤1050000):dF x=some (aN x)∧(aN x).length=12∧∀y∈aN x,0≤y∧y<10000:=by
 have e:∃r,dF x=some r∧r.length=12∧∀y∈r,0≤y∧y<10000:=by obtain⟨-,a⟩:=tU x h;obtain⟨-,c,k⟩:=ku _ a;obtain⟨l,d,f,g⟩:=t6 12 9223372036854775808 [] 0 _ (by omega) (by omega) (by simp) (by omega) c;unfold dF;simp only[Ej h,Ej a,d,Eg];exact⟨l,rfl,by simpa using f,fun y i=>(g y i).elim (fun q=>by cases q) id⟩
 obtain⟨r,b,j⟩:=e;have p:aN x=r:=by unfold aN;rw[b];rfl
 rw[p];exact⟨b,j⟩
theorem aP (a:List Int)(h:a.length≤1050000):Does E 7 [.one (Ed 1 (a.map etY))] [(false,[Ec 1 ((aN a).map etI)])]:=by exact qN a _ (mP a h).1
end
end Go.Proofs.Ytlhgcolciklecaa.Am
