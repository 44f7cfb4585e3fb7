/- What is drawn: the cursor, rules, places. -/
import Derived.Test.YtlhgcolciklecaaEnv
namespace Go.Proofs.Ytlhgcolciklecaa.Am
open Go
set_option linter.unusedVariables false
set_option linter.unusedSimpArgs false
section
open Go.Proofs Classical
set_option maxRecDepth 100000
structure GCron where
 f0:List Int
 f1:List Int
 f2:List Int
 f3:List Int
 f4:List Int
def BD (k:Kd)(x:GCron):List (T Unit):=[.s k () 1 (x.f0.map etI),.s k () 1 (x.f1.map etI),.s k () 1 (x.f2.map etI),.s k () 1 (x.f3.map etI),.s k () 1 (x.f4.map etI)]
instance:av GCron:=⟨fun x=>av.sm x.f0∧av.sm x.f1∧av.sm x.f2∧av.sm x.f3∧av.sm x.f4⟩
instance:Wf GCron:=⟨fun x=>Wf.wf x.f0∧Wf.wf x.f1∧Wf.wf x.f2∧Wf.wf x.f3∧Wf.wf x.f4⟩
structure GSpan where
 f0:Int
 f1:Int
def BE (x:GSpan):List (T Unit):=[tI x.f0,tI x.f1]
instance:av GSpan:=⟨fun x=>True⟩
instance:Wf GSpan:=⟨fun x=>True⟩
structure GCivil where
 f0:Int
 f1:Int
 f2:Int
 f3:Int
 f4:Int
def BC (x:GCivil):List (T Unit):=[tI x.f0,tI x.f1,tI x.f2,tI x.f3,tI x.f4]
instance:av GCivil:=⟨fun x=>True⟩
instance:Wf GCivil:=⟨fun x=>True⟩
structure Pl01Cur where
 f0:List Int
 f1:Int
 f2:Int
def Pl01Cur.t (k:Kd)(x:Pl01Cur):List (T Unit):=[.s k () 1 (x.f0.map etY),tI x.f1,tI x.f2]
instance:av Pl01Cur:=⟨fun x=>av.sm x.f0⟩
instance:Wf Pl01Cur:=⟨fun x=>Wf.wf x.f0⟩
def a8 (x a b:Int):Bool:=decide (x≥a)&&decide (x≤b)
theorem pG {α:Type}{l:List α}{k:Int}(h:0≤k∧k<(l.length:Int)):∃x,bd l k=some x∧x∈l:=by unfold bd;rw[BU h.1,BW (by omega)];exact⟨_,rfl,Dy _⟩
noncomputable def na (a b c:Int):Option (Bool):=cond (decide (a≥b)) (some (decide (a≤c))) (some (false))
theorem xp (a b c:Int):Ans (na a b c) (fun r=>Does E 26 [BI a,BI b,BI c] [BG r]):=by
 unfold na;apply Bw<;>intro d
 ·exact Bt (DP Try.f26 [.b true] (AC d<|AN))
 ·exact Bt (DP Try.f26 [.b false] (AC d<|AN))
theorem a5 (a:Int)(b:Int)(c:Int):Does E 26 [BI a,BI b,BI c] [BG (a8 a b c)]:=by exact xp a b c _ (by unfold na a8;cases decide (a≥b)<;>rfl)
noncomputable def kE (a b c:Int):Option (Bool):=cond (decide (a≥b)) (some (decide (a≤c))) (some (false))
theorem ua (a b c:Int):Ans (kE a b c) (fun r=>Does E 35 [BI a,BI b,BI c] [BG r]):=by
 unfold kE;apply Bw<;>intro d
 ·exact Bt (DP Try.f35 [.b true] (AC d<|AN))
 ·exact Bt (DP Try.f35 [.b false] (AC d<|AN))
theorem gf (a:Int)(b:Int)(c:Int):Does E 35 [BI a,BI b,BI c] [BG (a8 a b c)]:=by exact ua a b c _ (by unfold kE a8;cases decide (a≥b)<;>rfl)
inductive nS where|x0 (v3:Int)
def gt (a:List Int)(v3 v4:Int):US:=stL 32 [(0,.one (BO 1 (a.map etY))),(3,BI v3),(4,BI v4)]
def gD (b:List Int)(a:Int):US:=stL 32 [(0,.one (BO 1 (b.map etY))),(3,BI a)]
abbrev kP:US→Exit→US→Prop:=Round E 18 (aI Try.f18 0)
def uu (b:List Int)(v3 v4:Int):nS→Prop| .x0 a=>Loops E 18 (aI Try.f18 0) (gt b v3 v4) (.exit 0) (gD b a)
noncomputable def ea  : List Int→Nat→Int→Option nS|[],i,v3=>some (.x0 v3)|hd::rest,i,v3=>cond (decide ((i:Int)<(4000:Int))) (ea rest (i+1) (cl (IntKind.wrap .i64 ((IntKind.wrap .i64 ((IntKind.wrap .i64 (v3*(131:Int)))+(IntKind.wrap .i64 hd)))+(7:Int))) 1073741823)) (some (.x0 v3))
theorem ut (a:List Int)(rest:List Int):∀(i:Nat)(v3:Int),(a).drop i=rest→a.length≤9223372036854775807→Ans (ea rest i v3) (uu a v3 (i:Int)):=by
 induction rest with
 |nil =>intro i v3 b c;have hb:=c9 b;unfold ea;exact Bt (Bv (show kP (gt a v3 (i:Int)) (.exit 0) (gD a v3)from RP [BL (a.length:Int),.b false] (ALn a etY<|AC hb<|AN)))
 |cons hd rest f =>
  intro i v3 b c;have hb:=cy b;have g:=cz b c;have d:=bu b;have h:=cI b;unfold ea;apply Bw<;>intro e
  ·exact(f (i+1) (cl (IntKind.wrap .i64 ((IntKind.wrap .i64 ((IntKind.wrap .i64 (v3*(131:Int)))+(IntKind.wrap .i64 hd)))+(7:Int))) 1073741823) d c).mono fun y j=>by have r:kP (gt a v3 (i:Int)) .normal (gt a (cl (IntKind.wrap .i64 ((IntKind.wrap .i64 ((IntKind.wrap .i64 (v3*(131:Int)))+(IntKind.wrap .i64 hd)))+(7:Int))) 1073741823) (inc (i:Int))):=RP [BL (a.length:Int),.b true,.b true,.row (etY hd),.no,.no,BL (cl (IntKind.wrap .i64 ((IntKind.wrap .i64 ((IntKind.wrap .i64 (v3*(131:Int)))+(IntKind.wrap .i64 hd)))+(7:Int))) 1073741823)] (ALn a etY<|AC hb<|AC e<|AR etY h<|AC (p:=ef E.tab .and 3 (.int .i64 (IntKind.wrap .i64 ((IntKind.wrap .i64 ((IntKind.wrap .i64 (v3*(131:Int)))+(IntKind.wrap .i64 hd)))+(7:Int)))) (.int .i64 (1073741823:Int))=some (.int .i64 (cl (IntKind.wrap .i64 ((IntKind.wrap .i64 ((IntKind.wrap .i64 (v3*(131:Int)))+(IntKind.wrap .i64 hd)))+(7:Int))) 1073741823))) rfl<|AN);rw[g]at r;cases y<;>exact Bu r j
  ·exact Bt (Bv (show kP (gt a v3 (i:Int)) (.exit 0) (gD a v3)from RP [BL (a.length:Int),.b true,.b false] (ALn a etY<|AC hb<|AC e<|AN)))
noncomputable def fW (b:List Int):Option (Pl01Cur):=
  if b.length≤9223372036854775807 then(ea b 0 (IntKind.wrap .i64 ((27701:Int)+(b.length:Int)))).bind fun y=>match y with
   | .x0 a=>(some ((Pl01Cur.mk b 0 a)))else none
theorem wb (x0:List Int):Ans (fW x0) (fun r=>Does E 18 [.one (BO 1 (x0.map etY))] [(false,BN 3 [(Pl01Cur.t .far r).map T.holeF]:: .any::(Pl01Cur.t .far r).filter T.isFar)]):=by
 unfold fW;apply By;intro b;apply Bx;intro y c;replace c:=ut x0 x0 0 (IntKind.wrap .i64 ((27701:Int)+(x0.length:Int))) rfl b y c;cases y with
 |x0 a =>have d:=c;exact Bt (DP Try.f18 [BL (x0.length:Int),.lp (.exit 0) (gD x0 a)] (ALn x0 etY<|AL d<|AN))
def aY (c:Pl01Cur):Prop:=0≤c.f1∧c.f0.length≤1050000
noncomputable def aN (x:List Int):Pl01Cur:=(fW x).getD ⟨x,0,0⟩
theorem yy:∀(rest:List Int)(i:Nat)(v:Int),∃r,ea rest i v=some (.x0 r)
 |[],i,v=>⟨v,rfl⟩
 |x::rest,i,v=>by
  unfold ea;cases decide ((i:Int)<(4000:Int))with
  |true=>exact yy rest _ _
  |false=>exact⟨v,rfl⟩
theorem sO (x:List Int)(h:x.length≤1050000):fW x=some (aN x)∧aY (aN x):=by
 obtain⟨r,a⟩:=yy x 0 (IntKind.wrap .i64 ((27701:Int)+(x.length:Int)));have e:fW x=some ⟨x,0,r⟩:=by unfold fW;rw[BU (by omega),a];rfl
 have p:aN x=⟨x,0,r⟩:=by unfold aN;rw[e];rfl
 rw[p];exact⟨e,Int.le_refl 0,h⟩
theorem oz (a:List Int)(h:a.length≤1050000):Does E 18 [.one (BO 1 (a.map etY))] [(false,BN 3 [(Pl01Cur.t .far (aN a)).map T.holeF]:: .any::(Pl01Cur.t .far (aN a)).filter T.isFar)]:=by exact wb a _ (sO a h).1
noncomputable def fk (a:Pl01Cur):Option (Pl01Cur×Int):=cond (decide (a.f1<(a.f0.length:Int))) ((bd a.f0 a.f1).bind fun b=>some ((Pl01Cur.mk a.f0 (inc a.f1) (IntKind.wrap .i64 ((IntKind.wrap .i64 (a.f2*(6364136223846793005:Int)))+(1442695040888963407:Int)))),cl (IntKind.wrap .i64 ((cl (dG (Int.fdiv (IntKind.wrap .i64 ((IntKind.wrap .i64 (a.f2*(6364136223846793005:Int)))+(1442695040888963407:Int))) 8589934592) (Int.fdiv (IntKind.wrap .i64 ((IntKind.wrap .i64 (a.f2*(6364136223846793005:Int)))+(1442695040888963407:Int))) 35184372088832)) (255:Int))+(IntKind.wrap .i64 b))) 255)) (some ((Pl01Cur.mk a.f0 a.f1 (IntKind.wrap .i64 ((IntKind.wrap .i64 (a.f2*(6364136223846793005:Int)))+(1442695040888963407:Int)))),cl (dG (Int.fdiv (IntKind.wrap .i64 ((IntKind.wrap .i64 (a.f2*(6364136223846793005:Int)))+(1442695040888963407:Int))) 8589934592) (Int.fdiv (IntKind.wrap .i64 ((IntKind.wrap .i64 (a.f2*(6364136223846793005:Int)))+(1442695040888963407:Int))) 35184372088832)) 255))
theorem ur (a:Pl01Cur):Ans (fk a) (fun r=>Does E 21 [.box () (Pl01Cur.t .far a)] [(true,Pl01Cur.t .far r.1),BF r.2]):=by
 unfold fk;apply Bw<;>intro c
 ·apply Bx;intro b d;exact Bt (DP Try.f21 [.no,.no,BL (Int.fdiv (IntKind.wrap .i64 ((IntKind.wrap .i64 (a.f2*(6364136223846793005:Int)))+(1442695040888963407:Int))) 8589934592),BL (Int.fdiv (IntKind.wrap .i64 ((IntKind.wrap .i64 (a.f2*(6364136223846793005:Int)))+(1442695040888963407:Int))) 35184372088832),BL (dG (Int.fdiv (IntKind.wrap .i64 ((IntKind.wrap .i64 (a.f2*(6364136223846793005:Int)))+(1442695040888963407:Int))) 8589934592) (Int.fdiv (IntKind.wrap .i64 ((IntKind.wrap .i64 (a.f2*(6364136223846793005:Int)))+(1442695040888963407:Int))) 35184372088832)),BL (cl (dG (Int.fdiv (IntKind.wrap .i64 ((IntKind.wrap .i64 (a.f2*(6364136223846793005:Int)))+(1442695040888963407:Int))) 8589934592) (Int.fdiv (IntKind.wrap .i64 ((IntKind.wrap .i64 (a.f2*(6364136223846793005:Int)))+(1442695040888963407:Int))) 35184372088832)) 255),BL (a.f0.length:Int),.b true,.row (etY b),.no,BL (cl (IntKind.wrap .i64 ((cl (dG (Int.fdiv (IntKind.wrap .i64 ((IntKind.wrap .i64 (a.f2*(6364136223846793005:Int)))+(1442695040888963407:Int))) 8589934592) (Int.fdiv (IntKind.wrap .i64 ((IntKind.wrap .i64 (a.f2*(6364136223846793005:Int)))+(1442695040888963407:Int))) 35184372088832)) (255:Int))+(IntKind.wrap .i64 b))) 255)] (AC (p:=ef E.tab .shr 3 (.int .i64 (IntKind.wrap .i64 ((IntKind.wrap .i64 (a.f2*(6364136223846793005:Int)))+(1442695040888963407:Int)))) (.int .u64 (33:Int))=some (.int .i64 (Int.fdiv (IntKind.wrap .i64 ((IntKind.wrap .i64 (a.f2*(6364136223846793005:Int)))+(1442695040888963407:Int))) 8589934592))) rfl<|AC (p:=ef E.tab .shr 3 (.int .i64 (IntKind.wrap .i64 ((IntKind.wrap .i64 (a.f2*(6364136223846793005:Int)))+(1442695040888963407:Int)))) (.int .u64 (45:Int))=some (.int .i64 (Int.fdiv (IntKind.wrap .i64 ((IntKind.wrap .i64 (a.f2*(6364136223846793005:Int)))+(1442695040888963407:Int))) 35184372088832))) rfl<|AC (p:=ef E.tab .xor 3 (.int .i64 (Int.fdiv (IntKind.wrap .i64 ((IntKind.wrap .i64 (a.f2*(6364136223846793005:Int)))+(1442695040888963407:Int))) 8589934592)) (.int .i64 (Int.fdiv (IntKind.wrap .i64 ((IntKind.wrap .i64 (a.f2*(6364136223846793005:Int)))+(1442695040888963407:Int))) 35184372088832))=some (.int .i64 (dG (Int.fdiv (IntKind.wrap .i64 ((IntKind.wrap .i64 (a.f2*(6364136223846793005:Int)))+(1442695040888963407:Int))) 8589934592) (Int.fdiv (IntKind.wrap .i64 ((IntKind.wrap .i64 (a.f2*(6364136223846793005:Int)))+(1442695040888963407:Int))) 35184372088832)))) rfl<|AC (p:=ef E.tab .and 3 (.int .i64 (dG (Int.fdiv (IntKind.wrap .i64 ((IntKind.wrap .i64 (a.f2*(6364136223846793005:Int)))+(1442695040888963407:Int))) 8589934592) (Int.fdiv (IntKind.wrap .i64 ((IntKind.wrap .i64 (a.f2*(6364136223846793005:Int)))+(1442695040888963407:Int))) 35184372088832))) (.int .i64 (255:Int))=some (.int .i64 (cl (dG (Int.fdiv (IntKind.wrap .i64 ((IntKind.wrap .i64 (a.f2*(6364136223846793005:Int)))+(1442695040888963407:Int))) 8589934592) (Int.fdiv (IntKind.wrap .i64 ((IntKind.wrap .i64 (a.f2*(6364136223846793005:Int)))+(1442695040888963407:Int))) 35184372088832)) 255))) rfl<|ALn a.f0 etY<|AC c<|AR etY d<|AC (p:=ef E.tab .and 3 (.int .i64 (IntKind.wrap .i64 ((cl (dG (Int.fdiv (IntKind.wrap .i64 ((IntKind.wrap .i64 (a.f2*(6364136223846793005:Int)))+(1442695040888963407:Int))) 8589934592) (Int.fdiv (IntKind.wrap .i64 ((IntKind.wrap .i64 (a.f2*(6364136223846793005:Int)))+(1442695040888963407:Int))) 35184372088832)) (255:Int))+(IntKind.wrap .i64 b)))) (.int .i64 (255:Int))=some (.int .i64 (cl (IntKind.wrap .i64 ((cl (dG (Int.fdiv (IntKind.wrap .i64 ((IntKind.wrap .i64 (a.f2*(6364136223846793005:Int)))+(1442695040888963407:Int))) 8589934592) (Int.fdiv (IntKind.wrap .i64 ((IntKind.wrap .i64 (a.f2*(6364136223846793005:Int)))+(1442695040888963407:Int))) 35184372088832)) (255:Int))+(IntKind.wrap .i64 b))) 255))) rfl<|AN))
 ·exact Bt (DP Try.f21 [.no,.no,BL (Int.fdiv (IntKind.wrap .i64 ((IntKind.wrap .i64 (a.f2*(6364136223846793005:Int)))+(1442695040888963407:Int))) 8589934592),BL (Int.fdiv (IntKind.wrap .i64 ((IntKind.wrap .i64 (a.f2*(6364136223846793005:Int)))+(1442695040888963407:Int))) 35184372088832),BL (dG (Int.fdiv (IntKind.wrap .i64 ((IntKind.wrap .i64 (a.f2*(6364136223846793005:Int)))+(1442695040888963407:Int))) 8589934592) (Int.fdiv (IntKind.wrap .i64 ((IntKind.wrap .i64 (a.f2*(6364136223846793005:Int)))+(1442695040888963407:Int))) 35184372088832)),BL (cl (dG (Int.fdiv (IntKind.wrap .i64 ((IntKind.wrap .i64 (a.f2*(6364136223846793005:Int)))+(1442695040888963407:Int))) 8589934592) (Int.fdiv (IntKind.wrap .i64 ((IntKind.wrap .i64 (a.f2*(6364136223846793005:Int)))+(1442695040888963407:Int))) 35184372088832)) 255),BL (a.f0.length:Int),.b false] (AC (p:=ef E.tab .shr 3 (.int .i64 (IntKind.wrap .i64 ((IntKind.wrap .i64 (a.f2*(6364136223846793005:Int)))+(1442695040888963407:Int)))) (.int .u64 (33:Int))=some (.int .i64 (Int.fdiv (IntKind.wrap .i64 ((IntKind.wrap .i64 (a.f2*(6364136223846793005:Int)))+(1442695040888963407:Int))) 8589934592))) rfl<|AC (p:=ef E.tab .shr 3 (.int .i64 (IntKind.wrap .i64 ((IntKind.wrap .i64 (a.f2*(6364136223846793005:Int)))+(1442695040888963407:Int)))) (.int .u64 (45:Int))=some (.int .i64 (Int.fdiv (IntKind.wrap .i64 ((IntKind.wrap .i64 (a.f2*(6364136223846793005:Int)))+(1442695040888963407:Int))) 35184372088832))) rfl<|AC (p:=ef E.tab .xor 3 (.int .i64 (Int.fdiv (IntKind.wrap .i64 ((IntKind.wrap .i64 (a.f2*(6364136223846793005:Int)))+(1442695040888963407:Int))) 8589934592)) (.int .i64 (Int.fdiv (IntKind.wrap .i64 ((IntKind.wrap .i64 (a.f2*(6364136223846793005:Int)))+(1442695040888963407:Int))) 35184372088832))=some (.int .i64 (dG (Int.fdiv (IntKind.wrap .i64 ((IntKind.wrap .i64 (a.f2*(6364136223846793005:Int)))+(1442695040888963407:Int))) 8589934592) (Int.fdiv (IntKind.wrap .i64 ((IntKind.wrap .i64 (a.f2*(6364136223846793005:Int)))+(1442695040888963407:Int))) 35184372088832)))) rfl<|AC (p:=ef E.tab .and 3 (.int .i64 (dG (Int.fdiv (IntKind.wrap .i64 ((IntKind.wrap .i64 (a.f2*(6364136223846793005:Int)))+(1442695040888963407:Int))) 8589934592) (Int.fdiv (IntKind.wrap .i64 ((IntKind.wrap .i64 (a.f2*(6364136223846793005:Int)))+(1442695040888963407:Int))) 35184372088832))) (.int .i64 (255:Int))=some (.int .i64 (cl (dG (Int.fdiv (IntKind.wrap .i64 ((IntKind.wrap .i64 (a.f2*(6364136223846793005:Int)))+(1442695040888963407:Int))) 8589934592) (Int.fdiv (IntKind.wrap .i64 ((IntKind.wrap .i64 (a.f2*(6364136223846793005:Int)))+(1442695040888963407:Int))) 35184372088832)) 255))) rfl<|ALn a.f0 etY<|AC c<|AN))
theorem nm (a:Int):0≤cl a 255∧cl a 255≤255:=by
 have h:(BitVec.ofInt 64 a &&& BitVec.ofInt 64 255).toNat≤255:=by rw[BitVec.toNat_and];exact CM Nat.and_le_right (by decide)
 unfold cl;rw[ay _ (by omega) (by omega)];omega
noncomputable def af (c:Pl01Cur):Pl01Cur×Int:=(fk c).getD (c,0)
theorem jF (c:Pl01Cur)(h:aY c):fk c=some (af c)∧aY (af c).1∧0≤(af c).2∧(af c).2≤255:=by
 have e:∃r,fk c=some r∧aY r.1∧0≤r.2∧r.2≤255:=by
  have b:=h.1;have d:=h.2;unfold fk;by_cases q:c.f1<(c.f0.length:Int)
  ·obtain⟨g,f,_⟩:=pG (l:=c.f0) (k:=c.f1) ⟨b,q⟩;have hi:inc c.f1=c.f1+1:=fJ c.f1 (by omega) (by omega);rw[Cl q,Cs,f];exact⟨_,rfl,⟨by show 0≤inc c.f1;omega,d⟩,(nm _).1,(nm _).2⟩
  ·rw[Cj q,CI];exact⟨_,rfl,h,(nm _).1,(nm _).2⟩
 obtain⟨r,a,i⟩:=e;have p:af c=r:=by unfold af;rw[a];rfl
 rw[p];exact⟨a,i⟩
theorem fb (a:Pl01Cur)(h:aY a):Does E 21 [.box () (Pl01Cur.t .far a)] [(true,Pl01Cur.t .far ((af a).1)),BF ((af a).2)]:=by exact ur a _ (jF a h).1
noncomputable def ez (a:Pl01Cur)(b:Int):Option (Pl01Cur×Int):=cond (decide (b≤(0:Int))) (some (a,0)) (cond (decide (b≤(256:Int))) (if aY a then if b≠0 then some (((af a).1),Int.tmod ((af a).2) b)else none else none) (if aY a then if aY ((af a).1)then if aY ((af ((af a).1)).1)then if aY ((af ((af ((af a).1)).1)).1)then if b≠0 then some (((af ((af ((af ((af a).1)).1)).1)).1),Int.tmod (IntKind.wrap .i64 ((IntKind.wrap .i64 ((IntKind.wrap .i64 ((IntKind.wrap .i64 (((af a).2)*(16777216:Int)))+(IntKind.wrap .i64 (((af ((af a).1)).2)*(65536:Int)))))+(IntKind.wrap .i64 (((af ((af ((af a).1)).1)).2)*(256:Int)))))+((af ((af ((af ((af a).1)).1)).1)).2))) b)else none else none else none else none else none))
theorem tc (a:Pl01Cur)(b:Int):Ans (ez a b) (fun r=>Does E 20 [.box () (Pl01Cur.t .far a),BI b] [(true,Pl01Cur.t .far r.1),BF r.2]):=by
 unfold ez;apply Bw<;>intro c
 ·exact Bt (DP Try.f20 [.b true] (AC c<|AN))
 ·apply Bw<;>intro f
  ·apply By;intro d;apply By;intro e;exact Bt (DP Try.f20 [.b false,.b true,.ret [(true,Pl01Cur.t .far ((af a).1)),BF ((af a).2)],BL (Int.tmod ((af a).2) b)] (AC c<|AC f<|AV (ψ:=fun k=>E.C k 21 [.box () (Pl01Cur.t .far a)]=some [(true,Pl01Cur.t .far ((af a).1)),BF ((af a).2)]) (fb a d)<|AC (p:=ef E.tab .rem 3 (.int .i64 ((af a).2)) (.int .i64 b)=some (.int .i64 (Int.tmod ((af a).2) b))) (yA e)<|AN))
  ·apply By;intro d;apply By;intro e;apply By;intro g;apply By;intro h;apply By;intro i;exact Bt (DP Try.f20 [.b false,.b false,.ret [(true,Pl01Cur.t .far ((af a).1)),BF ((af a).2)],.ret [(true,Pl01Cur.t .far ((af ((af a).1)).1)),BF ((af ((af a).1)).2)],.ret [(true,Pl01Cur.t .far ((af ((af ((af a).1)).1)).1)),BF ((af ((af ((af a).1)).1)).2)],.ret [(true,Pl01Cur.t .far ((af ((af ((af ((af a).1)).1)).1)).1)),BF ((af ((af ((af ((af a).1)).1)).1)).2)],.no,.no,.no,.no,.no,.no,BL (Int.tmod (IntKind.wrap .i64 ((IntKind.wrap .i64 ((IntKind.wrap .i64 ((IntKind.wrap .i64 (((af a).2)*(16777216:Int)))+(IntKind.wrap .i64 (((af ((af a).1)).2)*(65536:Int)))))+(IntKind.wrap .i64 (((af ((af ((af a).1)).1)).2)*(256:Int)))))+((af ((af ((af ((af a).1)).1)).1)).2))) b)] (AC c<|AC f<|AV (ψ:=fun k=>E.C k 21 [.box () (Pl01Cur.t .far a)]=some [(true,Pl01Cur.t .far ((af a).1)),BF ((af a).2)]) (fb a d)<|AV (ψ:=fun k=>E.C k 21 [.box () (Pl01Cur.t .far ((af a).1))]=some [(true,Pl01Cur.t .far ((af ((af a).1)).1)),BF ((af ((af a).1)).2)]) (fb ((af a).1) e)<|AV (ψ:=fun k=>E.C k 21 [.box () (Pl01Cur.t .far ((af ((af a).1)).1))]=some [(true,Pl01Cur.t .far ((af ((af ((af a).1)).1)).1)),BF ((af ((af ((af a).1)).1)).2)]) (fb ((af ((af a).1)).1) g)<|AV (ψ:=fun k=>E.C k 21 [.box () (Pl01Cur.t .far ((af ((af ((af a).1)).1)).1))]=some [(true,Pl01Cur.t .far ((af ((af ((af ((af a).1)).1)).1)).1)),BF ((af ((af ((af ((af a).1)).1)).1)).2)]) (fb ((af ((af ((af a).1)).1)).1) h)<|AC (p:=ef E.tab .rem 3 (.int .i64 (IntKind.wrap .i64 ((IntKind.wrap .i64 ((IntKind.wrap .i64 ((IntKind.wrap .i64 (((af a).2)*(16777216:Int)))+(IntKind.wrap .i64 (((af ((af a).1)).2)*(65536:Int)))))+(IntKind.wrap .i64 (((af ((af ((af a).1)).1)).2)*(256:Int)))))+((af ((af ((af ((af a).1)).1)).1)).2)))) (.int .i64 b)=some (.int .i64 (Int.tmod (IntKind.wrap .i64 ((IntKind.wrap .i64 ((IntKind.wrap .i64 ((IntKind.wrap .i64 (((af a).2)*(16777216:Int)))+(IntKind.wrap .i64 (((af ((af a).1)).2)*(65536:Int)))))+(IntKind.wrap .i64 (((af ((af ((af a).1)).1)).2)*(256:Int)))))+((af ((af ((af ((af a).1)).1)).1)).2))) b))) (yA i)<|AN))
noncomputable def ab (c:Pl01Cur)(n:Int):Pl01Cur×Int:=(ez c n).getD (c,0)
theorem ll {a n:Int}(b:0≤a)(c:0<n):0≤Int.tmod a n∧Int.tmod a n<n:=⟨Int.tmod_nonneg n b,D7 a c⟩
theorem iE (c:Pl01Cur)(n:Int)(h:aY c):ez c n=some (ab c n)∧aY (ab c n).1∧0≤(ab c n).2∧(0<n→(ab c n).2<n):=by
 have e:∃r,ez c n=some r∧aY r.1∧0≤r.2∧(0<n→r.2<n):=by
  obtain⟨-,b,t,u⟩:=jF c h;obtain⟨-,j,v,w⟩:=jF _ b;obtain⟨-,k,x,y⟩:=jF _ j;obtain⟨-,a,l,z⟩:=jF _ k;unfold ez;by_cases q:n≤0
  ·rw[Cl q,Cs];exact⟨_,rfl,h,Int.le_refl 0,fun g=>absurd g (by omega)⟩
  ·rw[Cj q,CI];by_cases m:n≤256
   ·have d:n≠0:=by omega
    have o:=ll (n:=n) t (by omega);simp only[Cl m,Cs,BU h,BU d];exact⟨_,rfl,b,o.1,fun _=>o.2⟩
   ·have d:n≠0:=by omega
    simp only[Cj m,CI,BU h,BU b,BU j,BU k,BU d];refine⟨_,rfl,a,?_,?_⟩
    ·refine(ll ?_ (by omega)).1;generalize (af c).2=f at *;generalize (af (af c).1).2=i at *;generalize (af (af (af c).1).1).2=s at *;generalize (af (af (af (af c).1).1).1).2=A at *;rw[ay (f*16777216) (by omega) (by omega),ay (i*65536) (by omega) (by omega),ay (s*256) (by omega) (by omega),ay (f*16777216+i*65536) (by omega) (by omega),ay (f*16777216+i*65536+s*256) (by omega) (by omega),ay _ (by omega) (by omega)];omega
    ·intro _;exact D7 _ (by omega)
 obtain⟨r,a,l⟩:=e;have p:ab c n=r:=by unfold ab;rw[a];rfl
 rw[p];exact⟨a,l⟩
theorem dx (a:Pl01Cur)(b:Int)(h:aY a)(_:b≤1000000000):Does E 20 [.box () (Pl01Cur.t .far a),BI b] [(true,Pl01Cur.t .far ((ab a b).1)),BF ((ab a b).2)]:=by exact tc a b _ (iE a b h).1
noncomputable def i6 (a:Pl01Cur)(b:Int):Option (Pl01Cur×Bool):=if aY a then if b≤1000000000 then some (((ab a b).1),((ab a b).2)==(0:Int))else none else none
theorem uv (a:Pl01Cur)(b:Int):Ans (i6 a b) (fun r=>Does E 43 [.box () (Pl01Cur.t .far a),BI b] [(true,Pl01Cur.t .far r.1),BG r.2]):=by unfold i6;apply By;intro c;apply By;intro d;exact Bt (DP Try.f43 [.ret [(true,Pl01Cur.t .far ((ab a b).1)),BF ((ab a b).2)]] (AV (ψ:=fun k=>E.C k 20 [.box () (Pl01Cur.t .far a),BI b]=some [(true,Pl01Cur.t .far ((ab a b).1)),BF ((ab a b).2)]) (dx a b c d)<|AN))
noncomputable def ag (c:Pl01Cur)(n:Int):Pl01Cur×Bool:=((ab c n).1,(ab c n).2==0)
theorem pX (c:Pl01Cur)(n:Int)(h:aY c)(a:n≤1000000000):i6 c n=some (ag c n)∧aY (ag c n).1:=by unfold i6;simp only[BU h,BU a];exact⟨rfl,(iE c n h).2.1⟩
theorem gh (a:Pl01Cur)(b:Int)(h:aY a)(c:b≤1000000000):Does E 43 [.box () (Pl01Cur.t .far a),BI b] [(true,Pl01Cur.t .far ((ag a b).1)),BG ((ag a b).2)]:=by exact uv a b _ (pX a b h c).1
inductive ni where|x2 (v7:List Int)
def iz (a:List Int)(b c v2:Int)(v7:List Int)(v9 v10:Int):US:=stL 53 [(0,.box () [BO 1 (a.map etY),tI b,tI c]),(2,BI v2),(7,.one (BN 1 (v7.map etI))),(9,BI v9),(10,BI v10)]
def fY (a:List Int)(b c:Int)(d:List Int):US:=stL 53 [(0,.box () [BO 1 (a.map etY),tI b,tI c]),(7,.one (BN 1 (d.map etI)))]
abbrev nf:US→Exit→US→Prop:=Round E 32 (aI Try.f32 1)
def tn (a:List Int)(b c v2:Int)(v7:List Int)(v9 v10:Int):ni→Prop| .x2 d=>Loops E 32 (aI Try.f32 1) (iz a b c v2 v7 v9 v10) (.exit 2) (fY a b c d)
noncomputable def dF (v2 v9:Int):Nat→(List Int)→Int→Option ni| 0,_,_=>none|n+1,v7,v10=>cond (decide (v10≤v2)) (if(v7.length+([v10]).length)*8≤140737488355328∧v7.length+([v10]).length≤4611686018427387904 then dF v2 v9 n (v7++([v10])) (IntKind.wrap .i64 (v10+v9))else none) (some (.x2 v7))
theorem tj (a:List Int)(b c v2 v9:Int)(n:Nat):∀(v7:List Int)(v10:Int),Ans (dF v2 v9 n v7 v10) (tn a b c v2 v7 v9 v10):=by
 induction n with
 |zero=>intros;exact Ans.none
 |succ n e =>
  intro v7 v10;unfold dF;apply Bw<;>intro d
  ·apply By;intro f;have r:nf (iz a b c v2 v7 v9 v10) .normal (iz a b c v2 (v7++([v10])) v9 (IntKind.wrap .i64 (v10+v9))):=RP [.b true,.rows ((v7++([v10])).map etI)] (AC d<|AAp etI (fun _=>rfl) f<|AN);exact(e (v7++([v10])) (IntKind.wrap .i64 (v10+v9))).mono fun y g=>by cases y<;>exact Bu r g
  ·exact Bt (Bv (show nf (iz a b c v2 v7 v9 v10) (.exit 2) (fY a b c v7)from RP [.b false] (AC d<|AN)))
inductive nh where|x0 (v7:List Int)
def iy (a:List Int)(b c v2:Int)(v7:List Int)(v8:Int):US:=stL 53 [(0,.box () [BO 1 (a.map etY),tI b,tI c]),(2,BI v2),(7,.one (BN 1 (v7.map etI))),(8,BI v8)]
def iV (a:List Int)(b c:Int)(d:List Int):US:=stL 53 [(0,.box () [BO 1 (a.map etY),tI b,tI c]),(7,.one (BN 1 (d.map etI)))]
abbrev ne:US→Exit→US→Prop:=Round E 32 (aI Try.f32 0)
def tl (a:List Int)(b c v2:Int)(v7:List Int)(v8:Int):nh→Prop| .x0 d=>Loops E 32 (aI Try.f32 0) (iy a b c v2 v7 v8) (.exit 0) (iV a b c d)
noncomputable def dE (v2:Int):Nat→(List Int)→Int→Option nh| 0,_,_=>none|n+1,v7,v8=>cond (decide (v8≤v2)) (if(v7.length+([v8]).length)*8≤140737488355328∧v7.length+([v8]).length≤4611686018427387904 then dE v2 n (v7++([v8])) (inc v8)else none) (some (.x0 v7))
theorem th (a:List Int)(b c v2:Int)(n:Nat):∀(v7:List Int)(v8:Int),Ans (dE v2 n v7 v8) (tl a b c v2 v7 v8):=by
 induction n with
 |zero=>intros;exact Ans.none
 |succ n e =>
  intro v7 v8;unfold dE;apply Bw<;>intro d
  ·apply By;intro f;have r:ne (iy a b c v2 v7 v8) .normal (iy a b c v2 (v7++([v8])) (inc v8)):=RP [.b true,.rows ((v7++([v8])).map etI)] (AC d<|AAp etI (fun _=>rfl) f<|AN);exact(e (v7++([v8])) (inc v8)).mono fun y g=>by cases y<;>exact Bu r g
  ·exact Bt (Bv (show ne (iy a b c v2 v7 v8) (.exit 0) (iV a b c v7)from RP [.b false] (AC d<|AN)))
noncomputable def fo (a:Pl01Cur)(c d:Int):Option (Pl01Cur×(List Int)):=
  if aY a then if(3:Int)≤1000000000 then cond ((ag a 3).2)
   ((dE d 9223372036854775808 ([]) c).bind fun y=>match y with
    | .x0 b=>(some (((ag a 3).1),b)))
   (if aY ((ag a 3).1)then if(IntKind.wrap .i64 ((1:Int)+(IntKind.wrap .i64 (Int.tdiv (IntKind.wrap .i64 (d-c)) 2))))≤1000000000 then if aY ((ab ((ag a 3).1) (IntKind.wrap .i64 ((1:Int)+(IntKind.wrap .i64 (Int.tdiv (IntKind.wrap .i64 (d-c)) 2))))).1)then if(IntKind.wrap .i64 ((1:Int)+((ab ((ag a 3).1) (IntKind.wrap .i64 ((1:Int)+(IntKind.wrap .i64 (Int.tdiv (IntKind.wrap .i64 (d-c)) 2))))).2)))≤1000000000 then(dF d (IntKind.wrap .i64 ((1:Int)+((ab ((ag a 3).1) (IntKind.wrap .i64 ((1:Int)+(IntKind.wrap .i64 (Int.tdiv (IntKind.wrap .i64 (d-c)) 2))))).2))) 9223372036854775808 ([]) (IntKind.wrap .i64 (c+((ab ((ab ((ag a 3).1) (IntKind.wrap .i64 ((1:Int)+(IntKind.wrap .i64 (Int.tdiv (IntKind.wrap .i64 (d-c)) 2))))).1) (IntKind.wrap .i64 ((1:Int)+((ab ((ag a 3).1) (IntKind.wrap .i64 ((1:Int)+(IntKind.wrap .i64 (Int.tdiv (IntKind.wrap .i64 (d-c)) 2))))).2)))).2)))).bind fun y=>match y with
    | .x2 b=>(if aY ((ab ((ab ((ag a 3).1) (IntKind.wrap .i64 ((1:Int)+(IntKind.wrap .i64 (Int.tdiv (IntKind.wrap .i64 (d-c)) 2))))).1) (IntKind.wrap .i64 ((1:Int)+((ab ((ag a 3).1) (IntKind.wrap .i64 ((1:Int)+(IntKind.wrap .i64 (Int.tdiv (IntKind.wrap .i64 (d-c)) 2))))).2)))).1)then if(2:Int)≤1000000000 then cond ((ag ((ab ((ab ((ag a 3).1) (IntKind.wrap .i64 ((1:Int)+(IntKind.wrap .i64 (Int.tdiv (IntKind.wrap .i64 (d-c)) 2))))).1) (IntKind.wrap .i64 ((1:Int)+((ab ((ag a 3).1) (IntKind.wrap .i64 ((1:Int)+(IntKind.wrap .i64 (Int.tdiv (IntKind.wrap .i64 (d-c)) 2))))).2)))).1) 2).2)
     (if 0≤(0:Int)∧(0:Int)≤(1:Int)∧(1:Int)≤(b.length:Int)then some (((ag ((ab ((ab ((ag a 3).1) (IntKind.wrap .i64 ((1:Int)+(IntKind.wrap .i64 (Int.tdiv (IntKind.wrap .i64 (d-c)) 2))))).1) (IntKind.wrap .i64 ((1:Int)+((ab ((ag a 3).1) (IntKind.wrap .i64 ((1:Int)+(IntKind.wrap .i64 (Int.tdiv (IntKind.wrap .i64 (d-c)) 2))))).2)))).1) 2).1),(b.drop (0:Int).toNat).take ((1:Int).toNat-(0:Int).toNat))else none)
     (some (((ag ((ab ((ab ((ag a 3).1) (IntKind.wrap .i64 ((1:Int)+(IntKind.wrap .i64 (Int.tdiv (IntKind.wrap .i64 (d-c)) 2))))).1) (IntKind.wrap .i64 ((1:Int)+((ab ((ag a 3).1) (IntKind.wrap .i64 ((1:Int)+(IntKind.wrap .i64 (Int.tdiv (IntKind.wrap .i64 (d-c)) 2))))).2)))).1) 2).1),b))else none else none)else none else none else none else none)else none else none
theorem uz (x0:Pl01Cur)(a x2:Int):Ans (fo x0 a x2) (fun r=>Does E 32 [.box () (Pl01Cur.t .far x0),BI a,BI x2] [(true,Pl01Cur.t .far r.1),(false,[BN 1 (r.2.map etI)])]):=by
 unfold fo;apply By;intro f;apply By;intro g;apply Bw<;>intro h
 ·apply Bx;intro y c;replace c:=th (((ag x0 3).1).f0) (((ag x0 3).1).f1) (((ag x0 3).1).f2) x2 9223372036854775808 ([]) a y c;cases y with
  |x0 b =>have e:=c;exact Bt (DP Try.f32 [.ret [(true,Pl01Cur.t .far ((ag x0 3).1)),BG true],.lp (.exit 0) (iV (((ag x0 3).1).f0) (((ag x0 3).1).f1) (((ag x0 3).1).f2) b)] (AV (ψ:=fun k=>E.C k 43 [.box () (Pl01Cur.t .far x0),BI (3:Int)]=some [(true,Pl01Cur.t .far ((ag x0 3).1)),BG true]) (Bz (gh x0 3 f g) (by rw[h]))<|AL e<|AN))
 ·apply By;intro e;apply By;intro j;apply By;intro l;apply By;intro m;apply Bx;intro y c;replace c:=tj (((ab ((ab ((ag x0 3).1) (IntKind.wrap .i64 ((1:Int)+(IntKind.wrap .i64 (Int.tdiv (IntKind.wrap .i64 (x2-a)) 2))))).1) (IntKind.wrap .i64 ((1:Int)+((ab ((ag x0 3).1) (IntKind.wrap .i64 ((1:Int)+(IntKind.wrap .i64 (Int.tdiv (IntKind.wrap .i64 (x2-a)) 2))))).2)))).1).f0) (((ab ((ab ((ag x0 3).1) (IntKind.wrap .i64 ((1:Int)+(IntKind.wrap .i64 (Int.tdiv (IntKind.wrap .i64 (x2-a)) 2))))).1) (IntKind.wrap .i64 ((1:Int)+((ab ((ag x0 3).1) (IntKind.wrap .i64 ((1:Int)+(IntKind.wrap .i64 (Int.tdiv (IntKind.wrap .i64 (x2-a)) 2))))).2)))).1).f1) (((ab ((ab ((ag x0 3).1) (IntKind.wrap .i64 ((1:Int)+(IntKind.wrap .i64 (Int.tdiv (IntKind.wrap .i64 (x2-a)) 2))))).1) (IntKind.wrap .i64 ((1:Int)+((ab ((ag x0 3).1) (IntKind.wrap .i64 ((1:Int)+(IntKind.wrap .i64 (Int.tdiv (IntKind.wrap .i64 (x2-a)) 2))))).2)))).1).f2) x2 (IntKind.wrap .i64 ((1:Int)+((ab ((ag x0 3).1) (IntKind.wrap .i64 ((1:Int)+(IntKind.wrap .i64 (Int.tdiv (IntKind.wrap .i64 (x2-a)) 2))))).2))) 9223372036854775808 ([]) (IntKind.wrap .i64 (a+((ab ((ab ((ag x0 3).1) (IntKind.wrap .i64 ((1:Int)+(IntKind.wrap .i64 (Int.tdiv (IntKind.wrap .i64 (x2-a)) 2))))).1) (IntKind.wrap .i64 ((1:Int)+((ab ((ag x0 3).1) (IntKind.wrap .i64 ((1:Int)+(IntKind.wrap .i64 (Int.tdiv (IntKind.wrap .i64 (x2-a)) 2))))).2)))).2))) y c;cases y with
  |x2 b =>
   have n:=c;apply By;intro o;apply By;intro q;apply Bw<;>intro d
   ·apply By;intro i;exact Bt (Bz (rs:=[(true,Pl01Cur.t .far ((ag ((ab ((ab ((ag x0 3).1) (IntKind.wrap .i64 ((1:Int)+(IntKind.wrap .i64 (Int.tdiv (IntKind.wrap .i64 (x2-a)) 2))))).1) (IntKind.wrap .i64 ((1:Int)+((ab ((ag x0 3).1) (IntKind.wrap .i64 ((1:Int)+(IntKind.wrap .i64 (Int.tdiv (IntKind.wrap .i64 (x2-a)) 2))))).2)))).1) 2).1)),(false,[BN 1 (((b.map etI).drop (0+(0:Int).toNat)).take ((1:Int).toNat-(0:Int).toNat))])]) (DP Try.f32 [.ret [(true,Pl01Cur.t .far ((ag x0 3).1)),BG false],.ret [(true,Pl01Cur.t .far ((ab ((ag x0 3).1) (IntKind.wrap .i64 ((1:Int)+(IntKind.wrap .i64 (Int.tdiv (IntKind.wrap .i64 (x2-a)) 2))))).1)),BF ((ab ((ag x0 3).1) (IntKind.wrap .i64 ((1:Int)+(IntKind.wrap .i64 (Int.tdiv (IntKind.wrap .i64 (x2-a)) 2))))).2)],.ret [(true,Pl01Cur.t .far ((ab ((ab ((ag x0 3).1) (IntKind.wrap .i64 ((1:Int)+(IntKind.wrap .i64 (Int.tdiv (IntKind.wrap .i64 (x2-a)) 2))))).1) (IntKind.wrap .i64 ((1:Int)+((ab ((ag x0 3).1) (IntKind.wrap .i64 ((1:Int)+(IntKind.wrap .i64 (Int.tdiv (IntKind.wrap .i64 (x2-a)) 2))))).2)))).1)),BF ((ab ((ab ((ag x0 3).1) (IntKind.wrap .i64 ((1:Int)+(IntKind.wrap .i64 (Int.tdiv (IntKind.wrap .i64 (x2-a)) 2))))).1) (IntKind.wrap .i64 ((1:Int)+((ab ((ag x0 3).1) (IntKind.wrap .i64 ((1:Int)+(IntKind.wrap .i64 (Int.tdiv (IntKind.wrap .i64 (x2-a)) 2))))).2)))).2)],.lp (.exit 2) (fY (((ab ((ab ((ag x0 3).1) (IntKind.wrap .i64 ((1:Int)+(IntKind.wrap .i64 (Int.tdiv (IntKind.wrap .i64 (x2-a)) 2))))).1) (IntKind.wrap .i64 ((1:Int)+((ab ((ag x0 3).1) (IntKind.wrap .i64 ((1:Int)+(IntKind.wrap .i64 (Int.tdiv (IntKind.wrap .i64 (x2-a)) 2))))).2)))).1).f0) (((ab ((ab ((ag x0 3).1) (IntKind.wrap .i64 ((1:Int)+(IntKind.wrap .i64 (Int.tdiv (IntKind.wrap .i64 (x2-a)) 2))))).1) (IntKind.wrap .i64 ((1:Int)+((ab ((ag x0 3).1) (IntKind.wrap .i64 ((1:Int)+(IntKind.wrap .i64 (Int.tdiv (IntKind.wrap .i64 (x2-a)) 2))))).2)))).1).f1) (((ab ((ab ((ag x0 3).1) (IntKind.wrap .i64 ((1:Int)+(IntKind.wrap .i64 (Int.tdiv (IntKind.wrap .i64 (x2-a)) 2))))).1) (IntKind.wrap .i64 ((1:Int)+((ab ((ag x0 3).1) (IntKind.wrap .i64 ((1:Int)+(IntKind.wrap .i64 (Int.tdiv (IntKind.wrap .i64 (x2-a)) 2))))).2)))).1).f2) b),.ret [(true,Pl01Cur.t .far ((ag ((ab ((ab ((ag x0 3).1) (IntKind.wrap .i64 ((1:Int)+(IntKind.wrap .i64 (Int.tdiv (IntKind.wrap .i64 (x2-a)) 2))))).1) (IntKind.wrap .i64 ((1:Int)+((ab ((ag x0 3).1) (IntKind.wrap .i64 ((1:Int)+(IntKind.wrap .i64 (Int.tdiv (IntKind.wrap .i64 (x2-a)) 2))))).2)))).1) 2).1)),BG true]] (AV (ψ:=fun k=>E.C k 43 [.box () (Pl01Cur.t .far x0),BI (3:Int)]=some [(true,Pl01Cur.t .far ((ag x0 3).1)),BG false]) (Bz (gh x0 3 f g) (by rw[h]))<|AV (ψ:=fun k=>E.C k 20 [.box () (Pl01Cur.t .far ((ag x0 3).1)),BI (IntKind.wrap .i64 ((1:Int)+(IntKind.wrap .i64 (Int.tdiv (IntKind.wrap .i64 (x2-a)) 2))))]=some [(true,Pl01Cur.t .far ((ab ((ag x0 3).1) (IntKind.wrap .i64 ((1:Int)+(IntKind.wrap .i64 (Int.tdiv (IntKind.wrap .i64 (x2-a)) 2))))).1)),BF ((ab ((ag x0 3).1) (IntKind.wrap .i64 ((1:Int)+(IntKind.wrap .i64 (Int.tdiv (IntKind.wrap .i64 (x2-a)) 2))))).2)]) (dx ((ag x0 3).1) (IntKind.wrap .i64 ((1:Int)+(IntKind.wrap .i64 (Int.tdiv (IntKind.wrap .i64 (x2-a)) 2)))) e j)<|AV (ψ:=fun k=>E.C k 20 [.box () (Pl01Cur.t .far ((ab ((ag x0 3).1) (IntKind.wrap .i64 ((1:Int)+(IntKind.wrap .i64 (Int.tdiv (IntKind.wrap .i64 (x2-a)) 2))))).1)),BI (IntKind.wrap .i64 ((1:Int)+((ab ((ag x0 3).1) (IntKind.wrap .i64 ((1:Int)+(IntKind.wrap .i64 (Int.tdiv (IntKind.wrap .i64 (x2-a)) 2))))).2)))]=some [(true,Pl01Cur.t .far ((ab ((ab ((ag x0 3).1) (IntKind.wrap .i64 ((1:Int)+(IntKind.wrap .i64 (Int.tdiv (IntKind.wrap .i64 (x2-a)) 2))))).1) (IntKind.wrap .i64 ((1:Int)+((ab ((ag x0 3).1) (IntKind.wrap .i64 ((1:Int)+(IntKind.wrap .i64 (Int.tdiv (IntKind.wrap .i64 (x2-a)) 2))))).2)))).1)),BF ((ab ((ab ((ag x0 3).1) (IntKind.wrap .i64 ((1:Int)+(IntKind.wrap .i64 (Int.tdiv (IntKind.wrap .i64 (x2-a)) 2))))).1) (IntKind.wrap .i64 ((1:Int)+((ab ((ag x0 3).1) (IntKind.wrap .i64 ((1:Int)+(IntKind.wrap .i64 (Int.tdiv (IntKind.wrap .i64 (x2-a)) 2))))).2)))).2)]) (dx ((ab ((ag x0 3).1) (IntKind.wrap .i64 ((1:Int)+(IntKind.wrap .i64 (Int.tdiv (IntKind.wrap .i64 (x2-a)) 2))))).1) (IntKind.wrap .i64 ((1:Int)+((ab ((ag x0 3).1) (IntKind.wrap .i64 ((1:Int)+(IntKind.wrap .i64 (Int.tdiv (IntKind.wrap .i64 (x2-a)) 2))))).2))) l m)<|AL n<|AV (ψ:=fun k=>E.C k 43 [.box () (Pl01Cur.t .far ((ab ((ab ((ag x0 3).1) (IntKind.wrap .i64 ((1:Int)+(IntKind.wrap .i64 (Int.tdiv (IntKind.wrap .i64 (x2-a)) 2))))).1) (IntKind.wrap .i64 ((1:Int)+((ab ((ag x0 3).1) (IntKind.wrap .i64 ((1:Int)+(IntKind.wrap .i64 (Int.tdiv (IntKind.wrap .i64 (x2-a)) 2))))).2)))).1)),BI (2:Int)]=some [(true,Pl01Cur.t .far ((ag ((ab ((ab ((ag x0 3).1) (IntKind.wrap .i64 ((1:Int)+(IntKind.wrap .i64 (Int.tdiv (IntKind.wrap .i64 (x2-a)) 2))))).1) (IntKind.wrap .i64 ((1:Int)+((ab ((ag x0 3).1) (IntKind.wrap .i64 ((1:Int)+(IntKind.wrap .i64 (Int.tdiv (IntKind.wrap .i64 (x2-a)) 2))))).2)))).1) 2).1)),BG true]) (Bz (gh ((ab ((ab ((ag x0 3).1) (IntKind.wrap .i64 ((1:Int)+(IntKind.wrap .i64 (Int.tdiv (IntKind.wrap .i64 (x2-a)) 2))))).1) (IntKind.wrap .i64 ((1:Int)+((ab ((ag x0 3).1) (IntKind.wrap .i64 ((1:Int)+(IntKind.wrap .i64 (Int.tdiv (IntKind.wrap .i64 (x2-a)) 2))))).2)))).1) 2 o q) (by rw[d]))<|AC (p:=0≤(0:Int)∧(0:Int)≤(1:Int)∧(1:Int)≤((b.map etI).length:Int)) (qc i)<|AN)) (by simp only[Di,oo]))
   ·exact Bt (DP Try.f32 [.ret [(true,Pl01Cur.t .far ((ag x0 3).1)),BG false],.ret [(true,Pl01Cur.t .far ((ab ((ag x0 3).1) (IntKind.wrap .i64 ((1:Int)+(IntKind.wrap .i64 (Int.tdiv (IntKind.wrap .i64 (x2-a)) 2))))).1)),BF ((ab ((ag x0 3).1) (IntKind.wrap .i64 ((1:Int)+(IntKind.wrap .i64 (Int.tdiv (IntKind.wrap .i64 (x2-a)) 2))))).2)],.ret [(true,Pl01Cur.t .far ((ab ((ab ((ag x0 3).1) (IntKind.wrap .i64 ((1:Int)+(IntKind.wrap .i64 (Int.tdiv (IntKind.wrap .i64 (x2-a)) 2))))).1) (IntKind.wrap .i64 ((1:Int)+((ab ((ag x0 3).1) (IntKind.wrap .i64 ((1:Int)+(IntKind.wrap .i64 (Int.tdiv (IntKind.wrap .i64 (x2-a)) 2))))).2)))).1)),BF ((ab ((ab ((ag x0 3).1) (IntKind.wrap .i64 ((1:Int)+(IntKind.wrap .i64 (Int.tdiv (IntKind.wrap .i64 (x2-a)) 2))))).1) (IntKind.wrap .i64 ((1:Int)+((ab ((ag x0 3).1) (IntKind.wrap .i64 ((1:Int)+(IntKind.wrap .i64 (Int.tdiv (IntKind.wrap .i64 (x2-a)) 2))))).2)))).2)],.lp (.exit 2) (fY (((ab ((ab ((ag x0 3).1) (IntKind.wrap .i64 ((1:Int)+(IntKind.wrap .i64 (Int.tdiv (IntKind.wrap .i64 (x2-a)) 2))))).1) (IntKind.wrap .i64 ((1:Int)+((ab ((ag x0 3).1) (IntKind.wrap .i64 ((1:Int)+(IntKind.wrap .i64 (Int.tdiv (IntKind.wrap .i64 (x2-a)) 2))))).2)))).1).f0) (((ab ((ab ((ag x0 3).1) (IntKind.wrap .i64 ((1:Int)+(IntKind.wrap .i64 (Int.tdiv (IntKind.wrap .i64 (x2-a)) 2))))).1) (IntKind.wrap .i64 ((1:Int)+((ab ((ag x0 3).1) (IntKind.wrap .i64 ((1:Int)+(IntKind.wrap .i64 (Int.tdiv (IntKind.wrap .i64 (x2-a)) 2))))).2)))).1).f1) (((ab ((ab ((ag x0 3).1) (IntKind.wrap .i64 ((1:Int)+(IntKind.wrap .i64 (Int.tdiv (IntKind.wrap .i64 (x2-a)) 2))))).1) (IntKind.wrap .i64 ((1:Int)+((ab ((ag x0 3).1) (IntKind.wrap .i64 ((1:Int)+(IntKind.wrap .i64 (Int.tdiv (IntKind.wrap .i64 (x2-a)) 2))))).2)))).1).f2) b),.ret [(true,Pl01Cur.t .far ((ag ((ab ((ab ((ag x0 3).1) (IntKind.wrap .i64 ((1:Int)+(IntKind.wrap .i64 (Int.tdiv (IntKind.wrap .i64 (x2-a)) 2))))).1) (IntKind.wrap .i64 ((1:Int)+((ab ((ag x0 3).1) (IntKind.wrap .i64 ((1:Int)+(IntKind.wrap .i64 (Int.tdiv (IntKind.wrap .i64 (x2-a)) 2))))).2)))).1) 2).1)),BG false]] (AV (ψ:=fun k=>E.C k 43 [.box () (Pl01Cur.t .far x0),BI (3:Int)]=some [(true,Pl01Cur.t .far ((ag x0 3).1)),BG false]) (Bz (gh x0 3 f g) (by rw[h]))<|AV (ψ:=fun k=>E.C k 20 [.box () (Pl01Cur.t .far ((ag x0 3).1)),BI (IntKind.wrap .i64 ((1:Int)+(IntKind.wrap .i64 (Int.tdiv (IntKind.wrap .i64 (x2-a)) 2))))]=some [(true,Pl01Cur.t .far ((ab ((ag x0 3).1) (IntKind.wrap .i64 ((1:Int)+(IntKind.wrap .i64 (Int.tdiv (IntKind.wrap .i64 (x2-a)) 2))))).1)),BF ((ab ((ag x0 3).1) (IntKind.wrap .i64 ((1:Int)+(IntKind.wrap .i64 (Int.tdiv (IntKind.wrap .i64 (x2-a)) 2))))).2)]) (dx ((ag x0 3).1) (IntKind.wrap .i64 ((1:Int)+(IntKind.wrap .i64 (Int.tdiv (IntKind.wrap .i64 (x2-a)) 2)))) e j)<|AV (ψ:=fun k=>E.C k 20 [.box () (Pl01Cur.t .far ((ab ((ag x0 3).1) (IntKind.wrap .i64 ((1:Int)+(IntKind.wrap .i64 (Int.tdiv (IntKind.wrap .i64 (x2-a)) 2))))).1)),BI (IntKind.wrap .i64 ((1:Int)+((ab ((ag x0 3).1) (IntKind.wrap .i64 ((1:Int)+(IntKind.wrap .i64 (Int.tdiv (IntKind.wrap .i64 (x2-a)) 2))))).2)))]=some [(true,Pl01Cur.t .far ((ab ((ab ((ag x0 3).1) (IntKind.wrap .i64 ((1:Int)+(IntKind.wrap .i64 (Int.tdiv (IntKind.wrap .i64 (x2-a)) 2))))).1) (IntKind.wrap .i64 ((1:Int)+((ab ((ag x0 3).1) (IntKind.wrap .i64 ((1:Int)+(IntKind.wrap .i64 (Int.tdiv (IntKind.wrap .i64 (x2-a)) 2))))).2)))).1)),BF ((ab ((ab ((ag x0 3).1) (IntKind.wrap .i64 ((1:Int)+(IntKind.wrap .i64 (Int.tdiv (IntKind.wrap .i64 (x2-a)) 2))))).1) (IntKind.wrap .i64 ((1:Int)+((ab ((ag x0 3).1) (IntKind.wrap .i64 ((1:Int)+(IntKind.wrap .i64 (Int.tdiv (IntKind.wrap .i64 (x2-a)) 2))))).2)))).2)]) (dx ((ab ((ag x0 3).1) (IntKind.wrap .i64 ((1:Int)+(IntKind.wrap .i64 (Int.tdiv (IntKind.wrap .i64 (x2-a)) 2))))).1) (IntKind.wrap .i64 ((1:Int)+((ab ((ag x0 3).1) (IntKind.wrap .i64 ((1:Int)+(IntKind.wrap .i64 (Int.tdiv (IntKind.wrap .i64 (x2-a)) 2))))).2))) l m)<|AL n<|AV (ψ:=fun k=>E.C k 43 [.box () (Pl01Cur.t .far ((ab ((ab ((ag x0 3).1) (IntKind.wrap .i64 ((1:Int)+(IntKind.wrap .i64 (Int.tdiv (IntKind.wrap .i64 (x2-a)) 2))))).1) (IntKind.wrap .i64 ((1:Int)+((ab ((ag x0 3).1) (IntKind.wrap .i64 ((1:Int)+(IntKind.wrap .i64 (Int.tdiv (IntKind.wrap .i64 (x2-a)) 2))))).2)))).1)),BI (2:Int)]=some [(true,Pl01Cur.t .far ((ag ((ab ((ab ((ag x0 3).1) (IntKind.wrap .i64 ((1:Int)+(IntKind.wrap .i64 (Int.tdiv (IntKind.wrap .i64 (x2-a)) 2))))).1) (IntKind.wrap .i64 ((1:Int)+((ab ((ag x0 3).1) (IntKind.wrap .i64 ((1:Int)+(IntKind.wrap .i64 (Int.tdiv (IntKind.wrap .i64 (x2-a)) 2))))).2)))).1) 2).1)),BG false]) (Bz (gh ((ab ((ab ((ag x0 3).1) (IntKind.wrap .i64 ((1:Int)+(IntKind.wrap .i64 (Int.tdiv (IntKind.wrap .i64 (x2-a)) 2))))).1) (IntKind.wrap .i64 ((1:Int)+((ab ((ag x0 3).1) (IntKind.wrap .i64 ((1:Int)+(IntKind.wrap .i64 (Int.tdiv (IntKind.wrap .i64 (x2-a)) 2))))).2)))).1) 2 o q) (by rw[d]))<|AN))
theorem u2 (b:Int)(hb:b≤100):∀(m n:Nat)(v:List Int)(x:Int),(b+1-x).toNat=m→m<n→0≤x→v.length+m≤1000→∃l,dE b n v x=some (.x0 l)∧l.length=v.length+m
 |m,0,v,x,_,a,_,_=>by omega
 | 0,n+1,v,x,c,_,_,_=>by unfold dE;rw[Cj (by omega),CI];exact⟨v,rfl,rfl⟩
 |m+1,n+1,v,x,c,a,f,g=>by have hi:inc x=x+1:=fJ x (by omega) (by omega);obtain⟨l,d,e⟩:=u2 b hb m n (v++[x]) (x+1) (by omega) (by omega) (by omega) (by rw[C2,CF];omega);unfold dE;rw[Cl (by omega),Cs,BU (by rw[CF];omega),hi,d];exact⟨l,rfl,by rw[e,C2,CF];omega⟩
theorem u3 (b s:Int)(hb:b≤100)(hs:1≤s∧s≤200):∀(m n:Nat)(v:List Int)(x:Int),(b+1-x).toNat≤m→m<n→0≤x→x≤1000→v.length+m≤1000 →
  ∃l,dF b s n v x=some (.x2 l)∧v.length≤l.length∧l.length≤v.length+m∧(x≤b→v.length<l.length)
 |m,0,v,x,_,a,_,_,_=>by omega
 | 0,n+1,v,x,c,_,_,_,_=>by unfold dF;rw[Cj (by omega),CI];exact⟨v,rfl,Ct _,Ct _,fun q=>by omega⟩
 |m+1,n+1,v,x,c,a,j,d,k=>by
  unfold dF;by_cases q:x≤b
  ·have e:IntKind.wrap .i64 (x+s)=x+s:=ay _ (by omega) (by omega);obtain⟨l,f,h,i,o⟩:=u3 b s hb hs m n (v++[x]) (x+s) (by omega) (by omega) (by omega) (by omega) (by rw[C2,CF];omega);rw[C2,CF]at h i;rw[Cl q,Cs,BU (by rw[CF];omega),e,f];exact⟨l,rfl,by omega,by omega,fun _=>by omega⟩
  ·rw[Cj q,CI];exact⟨v,rfl,Ct _,by omega,fun g=>absurd g q⟩
noncomputable def ah (c:Pl01Cur)(a b:Int):Pl01Cur×List Int:=(fo c a b).getD (c,[])
theorem jJ (c:Pl01Cur)(a b:Int)(h:aY c)(d:0≤a∧a≤b∧b≤100):fo c a b=some (ah c a b)∧aY (ah c a b).1∧(ah c a b).2.length≤1000:=by
 have e:∃r,fo c a b=some r∧aY r.1∧r.2.length≤1000:=by
  have t:(3:Int)≤1000000000:=by omega
  have u:(2:Int)≤1000000000:=by omega
  obtain⟨-,g⟩:=pX c 3 h t;have i:IntKind.wrap .i64 (b-a)=b-a:=ay _ (by omega) (by omega);have hd:0≤Int.tdiv (b-a) 2∧Int.tdiv (b-a) 2≤b-a:=by rw[Cr (by omega)];omega
  have z:2*Int.tdiv (b-a) 2≤b-a:=by rw[Cr (by omega)];omega
  have j:IntKind.wrap .i64 (Int.tdiv (b-a) 2)=Int.tdiv (b-a) 2:=ay _ (by omega) (by omega);have k:IntKind.wrap .i64 (1+Int.tdiv (b-a) 2)=1+Int.tdiv (b-a) 2:=ay _ (by omega) (by omega);have A:1+Int.tdiv (b-a) 2≤1000000000:=by omega
  obtain⟨-,v,P,C⟩:=iE (ag c 3).1 (1+Int.tdiv (b-a) 2) g;have D:=C (by omega);generalize F:ab (ag c 3).1 (1+Int.tdiv (b-a) 2)=B at *;have l:IntKind.wrap .i64 (1+B.2)=1+B.2:=ay _ (by omega) (by omega);have m:1+B.2≤1000000000:=by omega
  obtain⟨-,w,Q,G⟩:=iE B.1 (1+B.2) v;have H:=G (by omega);generalize n:ab B.1 (1+B.2)=f at *;have o:IntKind.wrap .i64 (a+f.2)=a+f.2:=ay _ (by omega) (by omega);obtain⟨-,x⟩:=pX f.1 2 w u;obtain⟨I,J,K⟩:=u2 b d.2.2 (b+1-a).toNat 9223372036854775808 [] a rfl (by omega) d.1 (by simp;omega);obtain⟨q,L,R,M,N⟩:=u3 b (1+B.2) d.2.2 (by omega) (b+1-(a+f.2)).toNat 9223372036854775808 [] (a+f.2) (Ct _) (by omega) (by omega) (by omega) (by simp;omega);have s:=N (by omega);simp only[El]at K M s;unfold fo;simp only[BU h,BU t,BU u,i,j,k,BU g,BU A,F,l,BU v,BU m,n,o,BU w,J,L,BT];cases(ag c 3).2 with
  |true=>exact⟨_,rfl,g,by show I.length≤1000;omega⟩
  |false =>
   have hc:0≤(0:Int)∧(0:Int)≤(1:Int)∧(1:Int)≤(q.length:Int):=by omega
   simp only[CI,BU hc];cases(ag f.1 2).2 with
   |true=>exact⟨_,rfl,x,by show((q.drop _).take _).length≤1000;rw[List.length_take,List.length_drop];omega⟩
   |false=>exact⟨_,rfl,x,by show q.length≤1000;omega⟩
 obtain⟨r,y,O⟩:=e;have p:ah c a b=r:=by unfold ah;rw[y];rfl
 rw[p];exact⟨y,O⟩
theorem gi (c:Pl01Cur)(a:Int)(b:Int)(h:aY c)(d:0≤a∧a≤b∧b≤100):Does E 32 [.box () (Pl01Cur.t .far c),BI a,BI b] [(true,Pl01Cur.t .far ((ah c a b).1)),(false,[BN 1 (((ah c a b).2).map etI)])]:=by exact uz c a b _ (jJ c a b h d).1
noncomputable def fm (a:Pl01Cur):Option (Pl01Cur×GCron):=if aY a then if 0≤(0:Int)∧(0:Int)≤(59:Int)∧(59:Int)≤100 then if aY ((ah a 0 59).1)then if 0≤(0:Int)∧(0:Int)≤(23:Int)∧(23:Int)≤100 then if aY ((ah ((ah a 0 59).1) 0 23).1)then if 0≤(1:Int)∧(1:Int)≤(31:Int)∧(31:Int)≤100 then if aY ((ah ((ah ((ah a 0 59).1) 0 23).1) 1 31).1)then if 0≤(1:Int)∧(1:Int)≤(12:Int)∧(12:Int)≤100 then if aY ((ah ((ah ((ah ((ah a 0 59).1) 0 23).1) 1 31).1) 1 12).1)then if 0≤(0:Int)∧(0:Int)≤(6:Int)∧(6:Int)≤100 then some (((ah ((ah ((ah ((ah ((ah a 0 59).1) 0 23).1) 1 31).1) 1 12).1) 0 6).1),(GCron.mk ((ah a 0 59).2) ((ah ((ah a 0 59).1) 0 23).2) ((ah ((ah ((ah a 0 59).1) 0 23).1) 1 31).2) ((ah ((ah ((ah ((ah a 0 59).1) 0 23).1) 1 31).1) 1 12).2) ((ah ((ah ((ah ((ah ((ah a 0 59).1) 0 23).1) 1 31).1) 1 12).1) 0 6).2)))else none else none else none else none else none else none else none else none else none else none
theorem ux (a:Pl01Cur):Ans (fm a) (fun r=>Does E 19 [.box () (Pl01Cur.t .far a)] [(true,Pl01Cur.t .far r.1),(true,BD .own r.2)]):=by unfold fm;apply By;intro b;apply By;intro c;apply By;intro d;apply By;intro e;apply By;intro f;apply By;intro g;apply By;intro h;apply By;intro i;apply By;intro j;apply By;intro l;exact Bt (DP Try.f19 [.ret [(true,Pl01Cur.t .far ((ah a 0 59).1)),(false,[BN 1 (((ah a 0 59).2).map etI)])],.ret [(true,Pl01Cur.t .far ((ah ((ah a 0 59).1) 0 23).1)),(false,[BN 1 (((ah ((ah a 0 59).1) 0 23).2).map etI)])],.ret [(true,Pl01Cur.t .far ((ah ((ah ((ah a 0 59).1) 0 23).1) 1 31).1)),(false,[BN 1 (((ah ((ah ((ah a 0 59).1) 0 23).1) 1 31).2).map etI)])],.ret [(true,Pl01Cur.t .far ((ah ((ah ((ah ((ah a 0 59).1) 0 23).1) 1 31).1) 1 12).1)),(false,[BN 1 (((ah ((ah ((ah ((ah a 0 59).1) 0 23).1) 1 31).1) 1 12).2).map etI)])],.ret [(true,Pl01Cur.t .far ((ah ((ah ((ah ((ah ((ah a 0 59).1) 0 23).1) 1 31).1) 1 12).1) 0 6).1)),(false,[BN 1 (((ah ((ah ((ah ((ah ((ah a 0 59).1) 0 23).1) 1 31).1) 1 12).1) 0 6).2).map etI)])]] (AV (ψ:=fun k=>E.C k 32 [.box () (Pl01Cur.t .far a),BI 0,BI (59:Int)]=some [(true,Pl01Cur.t .far ((ah a 0 59).1)),(false,[BN 1 (((ah a 0 59).2).map etI)])]) (gi a 0 59 b c)<|AV (ψ:=fun k=>E.C k 32 [.box () (Pl01Cur.t .far ((ah a 0 59).1)),BI 0,BI (23:Int)]=some [(true,Pl01Cur.t .far ((ah ((ah a 0 59).1) 0 23).1)),(false,[BN 1 (((ah ((ah a 0 59).1) 0 23).2).map etI)])]) (gi ((ah a 0 59).1) 0 23 d e)<|AV (ψ:=fun k=>E.C k 32 [.box () (Pl01Cur.t .far ((ah ((ah a 0 59).1) 0 23).1)),BI 1,BI (31:Int)]=some [(true,Pl01Cur.t .far ((ah ((ah ((ah a 0 59).1) 0 23).1) 1 31).1)),(false,[BN 1 (((ah ((ah ((ah a 0 59).1) 0 23).1) 1 31).2).map etI)])]) (gi ((ah ((ah a 0 59).1) 0 23).1) 1 31 f g)<|AV (ψ:=fun k=>E.C k 32 [.box () (Pl01Cur.t .far ((ah ((ah ((ah a 0 59).1) 0 23).1) 1 31).1)),BI 1,BI (12:Int)]=some [(true,Pl01Cur.t .far ((ah ((ah ((ah ((ah a 0 59).1) 0 23).1) 1 31).1) 1 12).1)),(false,[BN 1 (((ah ((ah ((ah ((ah a 0 59).1) 0 23).1) 1 31).1) 1 12).2).map etI)])]) (gi ((ah ((ah ((ah a 0 59).1) 0 23).1) 1 31).1) 1 12 h i)<|AV (ψ:=fun k=>E.C k 32 [.box () (Pl01Cur.t .far ((ah ((ah ((ah ((ah a 0 59).1) 0 23).1) 1 31).1) 1 12).1)),BI 0,BI (6:Int)]=some [(true,Pl01Cur.t .far ((ah ((ah ((ah ((ah ((ah a 0 59).1) 0 23).1) 1 31).1) 1 12).1) 0 6).1)),(false,[BN 1 (((ah ((ah ((ah ((ah ((ah a 0 59).1) 0 23).1) 1 31).1) 1 12).1) 0 6).2).map etI)])]) (gi ((ah ((ah ((ah ((ah a 0 59).1) 0 23).1) 1 31).1) 1 12).1) 0 6 j l)<|AN))
noncomputable def bD (c:Pl01Cur):Pl01Cur×GCron:=(fm c).getD (c,⟨[],[],[],[],[]⟩)
theorem uH (c:Pl01Cur)(h:aY c):fm c=some (bD c)∧aY (bD c).1∧av.sm (bD c).2:=by
 have d:0≤(0:Int)∧(0:Int)≤59∧(59:Int)≤100:=by omega
 have f:0≤(0:Int)∧(0:Int)≤23∧(23:Int)≤100:=by omega
 have g:0≤(1:Int)∧(1:Int)≤31∧(31:Int)≤100:=by omega
 have i:0≤(1:Int)∧(1:Int)≤12∧(12:Int)≤100:=by omega
 have j:0≤(0:Int)∧(0:Int)≤6∧(6:Int)≤100:=by omega
 have e:∃r,fm c=some r∧aY r.1∧av.sm r.2:=by
  obtain⟨-,k,q⟩:=jJ c 0 59 h d;obtain⟨-,m,s⟩:=jJ _ 0 23 k f;obtain⟨-,n,t⟩:=jJ _ 1 31 m g;obtain⟨-,o,u⟩:=jJ _ 1 12 n i;obtain⟨-,a,b⟩:=jJ _ 0 6 o j;have sm:∀{l:List Int},l.length≤1000→av.sm l:=fun h=>⟨by omega,fun y v=>trivial⟩
  unfold fm;simp only[BU h,BU d,BU f,BU g,BU i,BU j,BU k,BU m,BU n,BU o];exact⟨_,rfl,a,sm q,sm s,sm t,sm u,sm b⟩
 obtain⟨r,a,b⟩:=e;have p:bD c=r:=by unfold bD;rw[a];rfl
 rw[p];exact⟨a,b⟩
theorem tH (a:Pl01Cur)(h:aY a):Does E 19 [.box () (Pl01Cur.t .far a)] [(true,Pl01Cur.t .far ((bD a).1)),(true,BD .own ((bD a).2))]:=by exact ux a _ (uH a h).1
noncomputable def iu (a:List Int):Option (GCron×Int):=if a.length≤1050000 then if aY (aN a)then if aY ((bD (aN a)).1)then if(60000000:Int)≤1000000000 then some (((bD (aN a)).2),(ab ((bD (aN a)).1) 60000000).2)else none else none else none else none
theorem s9 (a:List Int):Ans (iu a) (fun r=>Does E 6 [.one (BO 1 (a.map etY))] [(true,BD .own r.1),BF r.2]):=by unfold iu;apply By;intro b;apply By;intro c;apply By;intro d;apply By;intro e;exact Bt (DP Try.f6 [.ret [(false,BN 3 [(Pl01Cur.t .far (aN a)).map T.holeF]:: .any::(Pl01Cur.t .far (aN a)).filter T.isFar)],.ret [(true,Pl01Cur.t .far ((bD (aN a)).1)),(true,BD .own ((bD (aN a)).2))],.ret [(true,Pl01Cur.t .far ((ab ((bD (aN a)).1) 60000000).1)),BF ((ab ((bD (aN a)).1) 60000000).2)]] (AD (oz a b)<|AV (ψ:=fun k=>E.C k 19 [.box () (Pl01Cur.t .far (aN a))]=some [(true,Pl01Cur.t .far ((bD (aN a)).1)),(true,BD .own ((bD (aN a)).2))]) (tH (aN a) c)<|AV (ψ:=fun k=>E.C k 20 [.box () (Pl01Cur.t .far ((bD (aN a)).1)),BI (60000000:Int)]=some [(true,Pl01Cur.t .far ((ab ((bD (aN a)).1) 60000000).1)),BF ((ab ((bD (aN a)).1) 60000000).2)]) (dx ((bD (aN a)).1) 60000000 d e)<|AN))
noncomputable def aa (x:List Int):GCron×Int:=((bD (aN x)).2,(ab (bD (aN x)).1 60000000).2)
theorem nz (x:List Int)(h:x.length≤1050000):iu x=some (aa x)∧av.sm (aa x).1∧0≤(aa x).2∧(aa x).2<60000000:=by
 obtain⟨-,a⟩:=sO x h;obtain⟨-,b,c⟩:=uH _ a;have d:(60000000:Int)≤1000000000:=by omega
 obtain⟨-,g,e,f⟩:=iE _ 60000000 b;unfold iu;simp only[BU h,BU a,BU b,BU d];exact⟨rfl,c,e,f (by omega)⟩
theorem cY (a:List Int)(h:a.length≤1050000):Does E 6 [.one (BO 1 (a.map etY))] [(true,BD .own ((aa a).1)),BF ((aa a).2)]:=by exact s9 a _ (nz a h).1
inductive kp where|x0 (v4:List Int)
def fA (v4:List Int)(v5:Int)(a:List Int)(b c:Int):US:=stL 21 [(3,.pb 7 0),(4,.one (BN 1 (v4.map etI))),(5,BI v5),(7,.box () [BO 1 (a.map etY),tI b,tI c])]
def ge (a:List Int):US:=stL 21 [(4,.one (BN 1 (a.map etI)))]
abbrev ko:US→Exit→US→Prop:=Round E 7 (aI Try.f7 0)
def pg (v4:List Int)(v5:Int)(a:List Int)(b c:Int):kp→Prop| .x0 d=>Loops E 7 (aI Try.f7 0) (fA v4 v5 a b c) (.exit 0) (ge d)
noncomputable def cE  : Nat→(List Int)→Int→(List Int)→Int→Int→Option kp| 0,_,_,_,_,_=>none|n+1,v4,v5,a,b,c=>cond (decide (v5<(12:Int))) (if aY (Pl01Cur.mk a b c)then if(10000:Int)≤1000000000 then if(v4.length+([(ab (Pl01Cur.mk a b c) 10000).2]).length)*8≤140737488355328∧v4.length+([(ab (Pl01Cur.mk a b c) 10000).2]).length≤4611686018427387904 then cE n (v4++([(ab (Pl01Cur.mk a b c) 10000).2])) (inc v5) (((ab (Pl01Cur.mk a b c) 10000).1).f0) (((ab (Pl01Cur.mk a b c) 10000).1).f1) (((ab (Pl01Cur.mk a b c) 10000).1).f2)else none else none else none) (some (.x0 v4))
theorem pf  (n:Nat):∀(v4:List Int)(v5:Int)(a:List Int)(b c:Int),Ans (cE n v4 v5 a b c) (pg v4 v5 a b c):=by
 induction n with
 |zero=>intros;exact Ans.none
 |succ n e =>
  intro v4 v5 a b c;unfold cE;apply Bw<;>intro d
  ·apply By;intro f;apply By;intro g;apply By;intro h;have r:ko (fA v4 v5 a b c) .normal (fA (v4++([(ab (Pl01Cur.mk a b c) 10000).2])) (inc v5) (((ab (Pl01Cur.mk a b c) 10000).1).f0) (((ab (Pl01Cur.mk a b c) 10000).1).f1) (((ab (Pl01Cur.mk a b c) 10000).1).f2)):=RP [.b true,.ret [(true,Pl01Cur.t .far ((ab (Pl01Cur.mk a b c) 10000).1)),BF ((ab (Pl01Cur.mk a b c) 10000).2)],.rows ((v4++([(ab (Pl01Cur.mk a b c) 10000).2])).map etI)] (AC d<|AV (ψ:=fun k=>E.C k 20 [.box () (Pl01Cur.t .far (Pl01Cur.mk a b c)),BI (10000:Int)]=some [(true,Pl01Cur.t .far ((ab (Pl01Cur.mk a b c) 10000).1)),BF ((ab (Pl01Cur.mk a b c) 10000).2)]) (dx (Pl01Cur.mk a b c) 10000 f g)<|AAp etI (fun _=>rfl) h<|AN);exact(e (v4++([(ab (Pl01Cur.mk a b c) 10000).2])) (inc v5) (((ab (Pl01Cur.mk a b c) 10000).1).f0) (((ab (Pl01Cur.mk a b c) 10000).1).f1) (((ab (Pl01Cur.mk a b c) 10000).1).f2)).mono fun y i=>by cases y<;>exact Bu r i
  ·exact Bt (Bv (show ko (fA v4 v5 a b c) (.exit 0) (ge v4)from RP [.b false] (AC d<|AN)))
noncomputable def du (a:List Int):Option ((List Int)):=
  if a.length≤1050000 then if aY (aN a)then(cE 9223372036854775808 ([]) 0 (((af (aN a)).1).f0) (((af (aN a)).1).f1) (((af (aN a)).1).f2)).bind fun y=>match y with
   | .x0 b=>(some (b))else none else none
theorem p9 (x0:List Int):Ans (du x0) (fun r=>Does E 7 [.one (BO 1 (x0.map etY))] [(false,[BN 1 (r.map etI)])]):=by
 unfold du;apply By;intro c;apply By;intro d;apply Bx;intro y b;replace b:=pf 9223372036854775808 ([]) 0 (((af (aN x0)).1).f0) (((af (aN x0)).1).f1) (((af (aN x0)).1).f2) y b;cases y with
 |x0 a =>have e:=b;exact Bt (DP Try.f7 [.ret [(false,BN 3 [(Pl01Cur.t .far (aN x0)).map T.holeF]:: .any::(Pl01Cur.t .far (aN x0)).filter T.isFar)],.ret [(true,Pl01Cur.t .far ((af (aN x0)).1)),BF ((af (aN x0)).2)],.lp (.exit 0) (ge a)] (AD (oz x0 c)<|AV (ψ:=fun k=>E.C k 21 [.box () (Pl01Cur.t .far (aN x0))]=some [(true,Pl01Cur.t .far ((af (aN x0)).1)),BF ((af (aN x0)).2)]) (fb (aN x0) d)<|AL e<|AN))
theorem sU:∀(m n:Nat)(v:List Int)(k:Int)(c:Pl01Cur),k+(m:Int)=12→m<n→v.length+m≤1000→0≤k→aY c →
  ∃l,cE n v k c.f0 c.f1 c.f2=some (.x0 l)∧l.length=v.length+m∧∀x∈l,x∈v∨0≤x∧x<10000
 |m,0,v,k,c,_,e,_,_,_=>by omega
 | 0,n+1,v,k,c,f,_,_,_,_=>by unfold cE;rw[Cj (by omega),CI];exact⟨v,rfl,rfl,fun x a=>.inl a⟩
 |m+1,n+1,v,k,c,f,e,s,t,hc=>by
  have hi:inc k=k+1:=fJ k (by omega) (by omega);have g:(10000:Int)≤1000000000:=by omega
  obtain⟨-,h,i,j⟩:=iE c 10000 hc;have b:=j (by omega);have d:aY (Pl01Cur.mk c.f0 c.f1 c.f2):=hc;obtain⟨l,o,p,r⟩:=sU m n (v++[(ab c 10000).2]) (k+1) (ab c 10000).1 (by omega) (by omega) (by rw[C2,CF];omega) (by omega) h;unfold cE;rw[Cl (by omega),Cs];simp only[BU d,BU g];rw[show Pl01Cur.mk c.f0 c.f1 c.f2=c from rfl,BU (by rw[CF];omega),hi,o];refine⟨l,rfl,by rw[p,C2,CF];omega,fun x a=>?_⟩;rcases r x a with q|q
  ·rcases Ch.1 q with q|q
   ·exact .inl q
   ·rw[B1]at q;subst q;exact .inr ⟨i,b⟩
  ·exact .inr q
noncomputable def a6 (x:List Int):List Int:=(du x).getD []
theorem lV (x:List Int)(h:x.length≤1050000):du x=some (a6 x)∧(a6 x).length=12∧∀y∈a6 x,0≤y∧y<10000:=by
 have e:∃r,du x=some r∧r.length=12∧∀y∈r,0≤y∧y<10000:=by obtain⟨-,a⟩:=sO x h;obtain⟨-,c,k⟩:=jF _ a;obtain⟨l,d,f,g⟩:=sU 12 9223372036854775808 [] 0 _ (by omega) (by omega) (by simp) (by omega) c;unfold du;simp only[BU h,BU a,d,BT];exact⟨l,rfl,by simpa using f,fun y i=>(g y i).elim (fun q=>by cases q) id⟩
 obtain⟨r,b,j⟩:=e;have p:a6 x=r:=by unfold a6;rw[b];rfl
 rw[p];exact⟨b,j⟩
theorem ck (a:List Int)(h:a.length≤1050000):Does E 7 [.one (BO 1 (a.map etY))] [(false,[BN 1 ((a6 a).map etI)])]:=by exact p9 a _ (lV a h).1
end
end Go.Proofs.Ytlhgcolciklecaa.Am
