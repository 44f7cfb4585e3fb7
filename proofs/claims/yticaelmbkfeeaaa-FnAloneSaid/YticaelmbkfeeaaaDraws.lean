/- What is drawn. -/
import Derived.Test.YticaelmbkfeeaaaEnv
namespace Go.Proofs.Yticaelmbkfeeaaa.Am
open Go
set_option linter.unusedVariables false
set_option linter.unusedSimpArgs false
section
open Go.Proofs Classical
set_option maxRecDepth 100000
structure GEntry where
 f0:Int
 f1:Int
 f2:Ej
def BB (x:GEntry):List (T Unit):=[tI x.f0,tI x.f1,tS x.f2]
instance:cV GEntry:=⟨fun x=>cV.sm x.f2⟩
instance:Wf GEntry:=⟨fun x=>Wf.wf x.f2⟩
structure GPeer where
 f0:Int
 f1:Int
 f2:Int
 f3:Int
def BF (x:GPeer):List (T Unit):=[tI x.f0,tI x.f1,tI x.f2,tI x.f3]
instance:cV GPeer:=⟨fun x=>True⟩
instance:Wf GPeer:=⟨fun x=>True⟩
structure GLog where
 f0:Int
 f1:Int
 f2:List GEntry
def BC (k:Kd)(x:GLog):List (T Unit):=[tI x.f0,tI x.f1,.s k () 3 (x.f2.map BB)]
instance:cV GLog:=⟨fun x=>cV.sm x.f2⟩
instance:Wf GLog:=⟨fun x=>Wf.wf x.f2⟩
structure GNode where
 f0:Int
 f1:Int
 f2:Int
 f3:Int
 f4:Int
 f5:List Int
 f6:GLog
 f7:Int
 f8:Int
 f9:Int
 f10:List Int
 f11:List GPeer
def BE (k:Kd)(x:GNode):List (T Unit):=[tI x.f0]++[tI x.f1]++[tI x.f2]++[tI x.f3]++[tI x.f4]++[.s k () 1 (x.f5.map etI)]++BC k x.f6++[tI x.f7]++[tI x.f8]++[tI x.f9]++[.s k () 1 (x.f10.map etI)]++[.s k () 4 (x.f11.map BF)]
instance:cV GNode:=⟨fun x=>cV.sm x.f5∧cV.sm x.f6∧cV.sm x.f10∧cV.sm x.f11⟩
instance:Wf GNode:=⟨fun x=>Wf.wf x.f5∧Wf.wf x.f6∧Wf.wf x.f10∧Wf.wf x.f11⟩
structure GMessage where
 f0:Int
 f1:Int
 f2:Int
 f3:Int
 f4:Int
 f5:Int
 f6:Int
 f7:Bool
 f8:List GEntry
 f9:List Int
 f10:Ej
 f11:Bool
def BD (k:Kd)(x:GMessage):List (T Unit):=[tI x.f0,tI x.f1,tI x.f2,tI x.f3,tI x.f4,tI x.f5,tI x.f6,tB x.f7,.s k () 3 (x.f8.map BB),.s k () 1 (x.f9.map etI),tS x.f10,tB x.f11]
instance:cV GMessage:=⟨fun x=>cV.sm x.f8∧cV.sm x.f9∧cV.sm x.f10⟩
instance:Wf GMessage:=⟨fun x=>Wf.wf x.f8∧Wf.wf x.f9∧Wf.wf x.f10⟩
structure Pl01Cur where
 f0:List Int
 f1:Int
 f2:Int
def Pl01Cur.t (k:Kd)(x:Pl01Cur):List (T Unit):=[.s k () 1 (x.f0.map etY),tI x.f1,tI x.f2]
instance:cV Pl01Cur:=⟨fun x=>cV.sm x.f0⟩
instance:Wf Pl01Cur:=⟨fun x=>Wf.wf x.f0⟩
def be (x a b:Int):Bool:=decide (x≥a)&&decide (x≤b)
theorem vr {α:Type}{l:List α}{k:Int}(h:0≤k∧k<(l.length:Int)):∃x,dG l k=some x∧x∈l:=by unfold dG;rw[BZ h.1,BW (by omega)];exact⟨_,rfl,Dt _⟩
noncomputable def nK (a b c:Int):Option (Bool):=cond (decide (a≥b)) (some (decide (a≤c))) (some (false))
theorem xD (a b c:Int):Ans (nK a b c) (fun r=>Does E 56 [BJ a,BJ b,BJ c] [BH r]):=by
 unfold nK;apply Bv<;>intro d
 ·exact Bs (DP Try.f56 [.b true] (AC d<|AN))
 ·exact Bs (DP Try.f56 [.b false] (AC d<|AN))
theorem ix (a:Int)(b:Int)(c:Int):Does E 56 [BJ a,BJ b,BJ c] [BH (be a b c)]:=by exact xD a b c _ (by unfold nK be;cases decide (a≥b)<;>rfl)
noncomputable def lg (a b c:Int):Option (Bool):=cond (decide (a≥b)) (some (decide (a≤c))) (some (false))
theorem uP (a b c:Int):Ans (lg a b c) (fun r=>Does E 33 [BJ a,BJ b,BJ c] [BH r]):=by
 unfold lg;apply Bv<;>intro d
 ·exact Bs (DP Try.f33 [.b true] (AC d<|AN))
 ·exact Bs (DP Try.f33 [.b false] (AC d<|AN))
theorem aj (a:Int)(b:Int)(c:Int):Does E 33 [BJ a,BJ b,BJ c] [BH (be a b c)]:=by exact uP a b c _ (by unfold lg be;cases decide (a≥b)<;>rfl)
inductive oO where|x0 (v3:Int)
def g9 (v0:List Int)(v3 v4:Int):US:=stL 32 [(0,.one (BP 1 (v0.map etY))),(3,BJ v3),(4,BJ v4)]
def ii (v0:List Int)(a:Int):US:=stL 32 [(0,.one (BP 1 (v0.map etY))),(3,BJ a)]
abbrev lv:US→Exit→US→Prop:=Round E 29 (aS Try.f29 0)
def u4 (v0:List Int)(v3 v4:Int):oO→Prop| .x0 a=>Loops E 29 (aS Try.f29 0) (g9 v0 v3 v4) (.exit 0) (ii v0 a)
noncomputable def et  : List Int→Nat→Int→Option oO|[],i,v3=>some (.x0 v3)|hd::rest,i,v3=>cond (decide ((i:Int)<(4000:Int))) (et rest (i+1) (co (IntKind.wrap .i64 ((IntKind.wrap .i64 ((IntKind.wrap .i64 (v3*(131:Int)))+(IntKind.wrap .i64 hd)))+(7:Int))) 1073741823)) (some (.x0 v3))
theorem u3 (v0:List Int)(rest:List Int):∀(i:Nat)(v3:Int),(v0).drop i=rest→v0.length≤9223372036854775807→Ans (et rest i v3) (u4 v0 v3 (i:Int)):=by
 induction rest with
 |nil =>intro i v3 a b;have hb:=cq a;unfold et;exact Bs (Bu (show lv (g9 v0 v3 (i:Int)) (.exit 0) (ii v0 v3)from RP [BM (v0.length:Int),.b false] (ALn v0 etY<|AC hb<|AN)))
 |cons hd rest e =>
  intro i v3 a b;have hb:=bI a;have f:=bJ a b;have c:=bK a;have g:=cr a;unfold et;apply Bv<;>intro d
  ·exact(e (i+1) (co (IntKind.wrap .i64 ((IntKind.wrap .i64 ((IntKind.wrap .i64 (v3*(131:Int)))+(IntKind.wrap .i64 hd)))+(7:Int))) 1073741823) c b).mono fun y h=>by have r:lv (g9 v0 v3 (i:Int)) .normal (g9 v0 (co (IntKind.wrap .i64 ((IntKind.wrap .i64 ((IntKind.wrap .i64 (v3*(131:Int)))+(IntKind.wrap .i64 hd)))+(7:Int))) 1073741823) (inc (i:Int))):=RP [BM (v0.length:Int),.b true,.b true,.row (etY hd),.no,.no,BM (co (IntKind.wrap .i64 ((IntKind.wrap .i64 ((IntKind.wrap .i64 (v3*(131:Int)))+(IntKind.wrap .i64 hd)))+(7:Int))) 1073741823)] (ALn v0 etY<|AC hb<|AC d<|AR etY g<|AC (p:=eD E.tab .and 3 (.int .i64 (IntKind.wrap .i64 ((IntKind.wrap .i64 ((IntKind.wrap .i64 (v3*(131:Int)))+(IntKind.wrap .i64 hd)))+(7:Int)))) (.int .i64 (1073741823:Int))=some (.int .i64 (co (IntKind.wrap .i64 ((IntKind.wrap .i64 ((IntKind.wrap .i64 (v3*(131:Int)))+(IntKind.wrap .i64 hd)))+(7:Int))) 1073741823))) rfl<|AN);rw[f]at r;cases y<;>exact Bt r h
  ·exact Bs (Bu (show lv (g9 v0 v3 (i:Int)) (.exit 0) (ii v0 v3)from RP [BM (v0.length:Int),.b true,.b false] (ALn v0 etY<|AC hb<|AC d<|AN)))
noncomputable def gL (b:List Int):Option (Pl01Cur):=
  if b.length≤9223372036854775807 then(et b 0 (IntKind.wrap .i64 ((27701:Int)+(b.length:Int)))).bind fun y=>match y with
   | .x0 a=>(some ((Pl01Cur.mk b 0 a)))else none
theorem wy (x0:List Int):Ans (gL x0) (fun r=>Does E 29 [.one (BP 1 (x0.map etY))] [(false,BO 3 [(Pl01Cur.t .far r).map T.holeF]:: .any::(Pl01Cur.t .far r).filter T.isFar)]):=by
 unfold gL;apply Bx;intro b;apply Bw;intro y c;replace c:=u3 x0 x0 0 (IntKind.wrap .i64 ((27701:Int)+(x0.length:Int))) rfl b y c;cases y with
 |x0 a =>have d:=c;exact Bs (DP Try.f29 [BM (x0.length:Int),.lp (.exit 0) (ii x0 a)] (ALn x0 etY<|AL d<|AN))
def dN (c:Pl01Cur):Prop:=0≤c.f1∧c.f0.length≤1050000
noncomputable def cb (x:List Int):Pl01Cur:=(gL x).getD ⟨x,0,0⟩
theorem yJ:∀(rest:List Int)(i:Nat)(v:Int),∃r,et rest i v=some (.x0 r)
 |[],i,v=>⟨v,rfl⟩
 |x::rest,i,v=>by
  unfold et;cases decide ((i:Int)<(4000:Int))with
  |true=>exact yJ rest _ _
  |false=>exact⟨v,rfl⟩
theorem xw (x:List Int)(h:x.length≤1050000):gL x=some (cb x)∧dN (cb x):=by
 obtain⟨r,a⟩:=yJ x 0 (IntKind.wrap .i64 ((27701:Int)+(x.length:Int)));have e:gL x=some ⟨x,0,r⟩:=by unfold gL;rw[BZ (by omega),a];rfl
 have p:cb x=⟨x,0,r⟩:=by unfold cb;rw[e];rfl
 rw[p];exact⟨e,Int.le_refl 0,h⟩
theorem vE (a:List Int)(h:a.length≤1050000):Does E 29 [.one (BP 1 (a.map etY))] [(false,BO 3 [(Pl01Cur.t .far (cb a)).map T.holeF]:: .any::(Pl01Cur.t .far (cb a)).filter T.isFar)]:=by exact wy a _ (xw a h).1
noncomputable def fI (a:Pl01Cur):Option (Pl01Cur×Int):=cond (decide (a.f1<(a.f0.length:Int))) ((dG a.f0 a.f1).bind fun b=>some ((Pl01Cur.mk a.f0 (inc a.f1) (IntKind.wrap .i64 ((IntKind.wrap .i64 (a.f2*(6364136223846793005:Int)))+(1442695040888963407:Int)))),co (IntKind.wrap .i64 ((co (dM (Int.fdiv (IntKind.wrap .i64 ((IntKind.wrap .i64 (a.f2*(6364136223846793005:Int)))+(1442695040888963407:Int))) 8589934592) (Int.fdiv (IntKind.wrap .i64 ((IntKind.wrap .i64 (a.f2*(6364136223846793005:Int)))+(1442695040888963407:Int))) 35184372088832)) (255:Int))+(IntKind.wrap .i64 b))) 255)) (some ((Pl01Cur.mk a.f0 a.f1 (IntKind.wrap .i64 ((IntKind.wrap .i64 (a.f2*(6364136223846793005:Int)))+(1442695040888963407:Int)))),co (dM (Int.fdiv (IntKind.wrap .i64 ((IntKind.wrap .i64 (a.f2*(6364136223846793005:Int)))+(1442695040888963407:Int))) 8589934592) (Int.fdiv (IntKind.wrap .i64 ((IntKind.wrap .i64 (a.f2*(6364136223846793005:Int)))+(1442695040888963407:Int))) 35184372088832)) 255))
theorem u2 (a:Pl01Cur):Ans (fI a) (fun r=>Does E 30 [.box () (Pl01Cur.t .far a)] [(true,Pl01Cur.t .far r.1),BG r.2]):=by
 unfold fI;apply Bv<;>intro c
 ·apply Bw;intro b d;exact Bs (DP Try.f30 [.no,.no,BM (Int.fdiv (IntKind.wrap .i64 ((IntKind.wrap .i64 (a.f2*(6364136223846793005:Int)))+(1442695040888963407:Int))) 8589934592),BM (Int.fdiv (IntKind.wrap .i64 ((IntKind.wrap .i64 (a.f2*(6364136223846793005:Int)))+(1442695040888963407:Int))) 35184372088832),BM (dM (Int.fdiv (IntKind.wrap .i64 ((IntKind.wrap .i64 (a.f2*(6364136223846793005:Int)))+(1442695040888963407:Int))) 8589934592) (Int.fdiv (IntKind.wrap .i64 ((IntKind.wrap .i64 (a.f2*(6364136223846793005:Int)))+(1442695040888963407:Int))) 35184372088832)),BM (co (dM (Int.fdiv (IntKind.wrap .i64 ((IntKind.wrap .i64 (a.f2*(6364136223846793005:Int)))+(1442695040888963407:Int))) 8589934592) (Int.fdiv (IntKind.wrap .i64 ((IntKind.wrap .i64 (a.f2*(6364136223846793005:Int)))+(1442695040888963407:Int))) 35184372088832)) 255),BM (a.f0.length:Int),.b true,.row (etY b),.no,BM (co (IntKind.wrap .i64 ((co (dM (Int.fdiv (IntKind.wrap .i64 ((IntKind.wrap .i64 (a.f2*(6364136223846793005:Int)))+(1442695040888963407:Int))) 8589934592) (Int.fdiv (IntKind.wrap .i64 ((IntKind.wrap .i64 (a.f2*(6364136223846793005:Int)))+(1442695040888963407:Int))) 35184372088832)) (255:Int))+(IntKind.wrap .i64 b))) 255)] (AC (p:=eD E.tab .shr 3 (.int .i64 (IntKind.wrap .i64 ((IntKind.wrap .i64 (a.f2*(6364136223846793005:Int)))+(1442695040888963407:Int)))) (.int .u64 (33:Int))=some (.int .i64 (Int.fdiv (IntKind.wrap .i64 ((IntKind.wrap .i64 (a.f2*(6364136223846793005:Int)))+(1442695040888963407:Int))) 8589934592))) rfl<|AC (p:=eD E.tab .shr 3 (.int .i64 (IntKind.wrap .i64 ((IntKind.wrap .i64 (a.f2*(6364136223846793005:Int)))+(1442695040888963407:Int)))) (.int .u64 (45:Int))=some (.int .i64 (Int.fdiv (IntKind.wrap .i64 ((IntKind.wrap .i64 (a.f2*(6364136223846793005:Int)))+(1442695040888963407:Int))) 35184372088832))) rfl<|AC (p:=eD E.tab .xor 3 (.int .i64 (Int.fdiv (IntKind.wrap .i64 ((IntKind.wrap .i64 (a.f2*(6364136223846793005:Int)))+(1442695040888963407:Int))) 8589934592)) (.int .i64 (Int.fdiv (IntKind.wrap .i64 ((IntKind.wrap .i64 (a.f2*(6364136223846793005:Int)))+(1442695040888963407:Int))) 35184372088832))=some (.int .i64 (dM (Int.fdiv (IntKind.wrap .i64 ((IntKind.wrap .i64 (a.f2*(6364136223846793005:Int)))+(1442695040888963407:Int))) 8589934592) (Int.fdiv (IntKind.wrap .i64 ((IntKind.wrap .i64 (a.f2*(6364136223846793005:Int)))+(1442695040888963407:Int))) 35184372088832)))) rfl<|AC (p:=eD E.tab .and 3 (.int .i64 (dM (Int.fdiv (IntKind.wrap .i64 ((IntKind.wrap .i64 (a.f2*(6364136223846793005:Int)))+(1442695040888963407:Int))) 8589934592) (Int.fdiv (IntKind.wrap .i64 ((IntKind.wrap .i64 (a.f2*(6364136223846793005:Int)))+(1442695040888963407:Int))) 35184372088832))) (.int .i64 (255:Int))=some (.int .i64 (co (dM (Int.fdiv (IntKind.wrap .i64 ((IntKind.wrap .i64 (a.f2*(6364136223846793005:Int)))+(1442695040888963407:Int))) 8589934592) (Int.fdiv (IntKind.wrap .i64 ((IntKind.wrap .i64 (a.f2*(6364136223846793005:Int)))+(1442695040888963407:Int))) 35184372088832)) 255))) rfl<|ALn a.f0 etY<|AC c<|AR etY d<|AC (p:=eD E.tab .and 3 (.int .i64 (IntKind.wrap .i64 ((co (dM (Int.fdiv (IntKind.wrap .i64 ((IntKind.wrap .i64 (a.f2*(6364136223846793005:Int)))+(1442695040888963407:Int))) 8589934592) (Int.fdiv (IntKind.wrap .i64 ((IntKind.wrap .i64 (a.f2*(6364136223846793005:Int)))+(1442695040888963407:Int))) 35184372088832)) (255:Int))+(IntKind.wrap .i64 b)))) (.int .i64 (255:Int))=some (.int .i64 (co (IntKind.wrap .i64 ((co (dM (Int.fdiv (IntKind.wrap .i64 ((IntKind.wrap .i64 (a.f2*(6364136223846793005:Int)))+(1442695040888963407:Int))) 8589934592) (Int.fdiv (IntKind.wrap .i64 ((IntKind.wrap .i64 (a.f2*(6364136223846793005:Int)))+(1442695040888963407:Int))) 35184372088832)) (255:Int))+(IntKind.wrap .i64 b))) 255))) rfl<|AN))
 ·exact Bs (DP Try.f30 [.no,.no,BM (Int.fdiv (IntKind.wrap .i64 ((IntKind.wrap .i64 (a.f2*(6364136223846793005:Int)))+(1442695040888963407:Int))) 8589934592),BM (Int.fdiv (IntKind.wrap .i64 ((IntKind.wrap .i64 (a.f2*(6364136223846793005:Int)))+(1442695040888963407:Int))) 35184372088832),BM (dM (Int.fdiv (IntKind.wrap .i64 ((IntKind.wrap .i64 (a.f2*(6364136223846793005:Int)))+(1442695040888963407:Int))) 8589934592) (Int.fdiv (IntKind.wrap .i64 ((IntKind.wrap .i64 (a.f2*(6364136223846793005:Int)))+(1442695040888963407:Int))) 35184372088832)),BM (co (dM (Int.fdiv (IntKind.wrap .i64 ((IntKind.wrap .i64 (a.f2*(6364136223846793005:Int)))+(1442695040888963407:Int))) 8589934592) (Int.fdiv (IntKind.wrap .i64 ((IntKind.wrap .i64 (a.f2*(6364136223846793005:Int)))+(1442695040888963407:Int))) 35184372088832)) 255),BM (a.f0.length:Int),.b false] (AC (p:=eD E.tab .shr 3 (.int .i64 (IntKind.wrap .i64 ((IntKind.wrap .i64 (a.f2*(6364136223846793005:Int)))+(1442695040888963407:Int)))) (.int .u64 (33:Int))=some (.int .i64 (Int.fdiv (IntKind.wrap .i64 ((IntKind.wrap .i64 (a.f2*(6364136223846793005:Int)))+(1442695040888963407:Int))) 8589934592))) rfl<|AC (p:=eD E.tab .shr 3 (.int .i64 (IntKind.wrap .i64 ((IntKind.wrap .i64 (a.f2*(6364136223846793005:Int)))+(1442695040888963407:Int)))) (.int .u64 (45:Int))=some (.int .i64 (Int.fdiv (IntKind.wrap .i64 ((IntKind.wrap .i64 (a.f2*(6364136223846793005:Int)))+(1442695040888963407:Int))) 35184372088832))) rfl<|AC (p:=eD E.tab .xor 3 (.int .i64 (Int.fdiv (IntKind.wrap .i64 ((IntKind.wrap .i64 (a.f2*(6364136223846793005:Int)))+(1442695040888963407:Int))) 8589934592)) (.int .i64 (Int.fdiv (IntKind.wrap .i64 ((IntKind.wrap .i64 (a.f2*(6364136223846793005:Int)))+(1442695040888963407:Int))) 35184372088832))=some (.int .i64 (dM (Int.fdiv (IntKind.wrap .i64 ((IntKind.wrap .i64 (a.f2*(6364136223846793005:Int)))+(1442695040888963407:Int))) 8589934592) (Int.fdiv (IntKind.wrap .i64 ((IntKind.wrap .i64 (a.f2*(6364136223846793005:Int)))+(1442695040888963407:Int))) 35184372088832)))) rfl<|AC (p:=eD E.tab .and 3 (.int .i64 (dM (Int.fdiv (IntKind.wrap .i64 ((IntKind.wrap .i64 (a.f2*(6364136223846793005:Int)))+(1442695040888963407:Int))) 8589934592) (Int.fdiv (IntKind.wrap .i64 ((IntKind.wrap .i64 (a.f2*(6364136223846793005:Int)))+(1442695040888963407:Int))) 35184372088832))) (.int .i64 (255:Int))=some (.int .i64 (co (dM (Int.fdiv (IntKind.wrap .i64 ((IntKind.wrap .i64 (a.f2*(6364136223846793005:Int)))+(1442695040888963407:Int))) 8589934592) (Int.fdiv (IntKind.wrap .i64 ((IntKind.wrap .i64 (a.f2*(6364136223846793005:Int)))+(1442695040888963407:Int))) 35184372088832)) 255))) rfl<|ALn a.f0 etY<|AC c<|AN))
theorem nS (a:Int):0≤co a 255∧co a 255≤255:=by
 have h:(BitVec.ofInt 64 a &&& BitVec.ofInt 64 255).toNat≤255:=by rw[BitVec.toNat_and];exact CH Nat.and_le_right (by decide)
 unfold co;rw[fO _ (by omega) (by omega)];omega
noncomputable def ag (c:Pl01Cur):Pl01Cur×Int:=(fI c).getD (c,0)
theorem kk (c:Pl01Cur)(h:dN c):fI c=some (ag c)∧dN (ag c).1∧0≤(ag c).2∧(ag c).2≤255:=by
 have e:∃r,fI c=some r∧dN r.1∧0≤r.2∧r.2≤255:=by
  have b:=h.1;have d:=h.2;unfold fI;by_cases q:c.f1<(c.f0.length:Int)
  ·obtain⟨g,f,_⟩:=vr (l:=c.f0) (k:=c.f1) ⟨b,q⟩;have hi:inc c.f1=c.f1+1:=xr c.f1 (by omega) (by omega);rw[DF q,cond_true,f];exact⟨_,rfl,⟨by show 0≤inc c.f1;omega,d⟩,(nS _).1,(nS _).2⟩
  ·rw[DE q,Eb];exact⟨_,rfl,h,(nS _).1,(nS _).2⟩
 obtain⟨r,a,i⟩:=e;have p:ag c=r:=by unfold ag;rw[a];rfl
 rw[p];exact⟨a,i⟩
theorem fy (a:Pl01Cur)(h:dN a):Does E 30 [.box () (Pl01Cur.t .far a)] [(true,Pl01Cur.t .far ((ag a).1)),BG ((ag a).2)]:=by exact u2 a _ (kk a h).1
noncomputable def eM (a:Pl01Cur)(b:Int):Option (Pl01Cur×Int):=cond (decide (b≤(0:Int))) (some (a,0)) (cond (decide (b≤(256:Int))) (if dN a then if b≠0 then some (((ag a).1),Int.tmod ((ag a).2) b)else none else none) (if dN a then if dN ((ag a).1)then if dN ((ag ((ag a).1)).1)then if dN ((ag ((ag ((ag a).1)).1)).1)then if b≠0 then some (((ag ((ag ((ag ((ag a).1)).1)).1)).1),Int.tmod (IntKind.wrap .i64 ((IntKind.wrap .i64 ((IntKind.wrap .i64 ((IntKind.wrap .i64 (((ag a).2)*(16777216:Int)))+(IntKind.wrap .i64 (((ag ((ag a).1)).2)*(65536:Int)))))+(IntKind.wrap .i64 (((ag ((ag ((ag a).1)).1)).2)*(256:Int)))))+((ag ((ag ((ag ((ag a).1)).1)).1)).2))) b)else none else none else none else none else none))
theorem tZ (a:Pl01Cur)(b:Int):Ans (eM a b) (fun r=>Does E 31 [.box () (Pl01Cur.t .far a),BJ b] [(true,Pl01Cur.t .far r.1),BG r.2]):=by
 unfold eM;apply Bv<;>intro c
 ·exact Bs (DP Try.f31 [.b true] (AC c<|AN))
 ·apply Bv<;>intro f
  ·apply Bx;intro d;apply Bx;intro e;exact Bs (DP Try.f31 [.b false,.b true,.ret [(true,Pl01Cur.t .far ((ag a).1)),BG ((ag a).2)],BM (Int.tmod ((ag a).2) b)] (AC c<|AC f<|AV (ψ:=fun k=>E.C k 30 [.box () (Pl01Cur.t .far a)]=some [(true,Pl01Cur.t .far ((ag a).1)),BG ((ag a).2)]) (fy a d)<|AC (p:=eD E.tab .rem 3 (.int .i64 ((ag a).2)) (.int .i64 b)=some (.int .i64 (Int.tmod ((ag a).2) b))) (yL e)<|AN))
  ·apply Bx;intro d;apply Bx;intro e;apply Bx;intro g;apply Bx;intro h;apply Bx;intro i;exact Bs (DP Try.f31 [.b false,.b false,.ret [(true,Pl01Cur.t .far ((ag a).1)),BG ((ag a).2)],.ret [(true,Pl01Cur.t .far ((ag ((ag a).1)).1)),BG ((ag ((ag a).1)).2)],.ret [(true,Pl01Cur.t .far ((ag ((ag ((ag a).1)).1)).1)),BG ((ag ((ag ((ag a).1)).1)).2)],.ret [(true,Pl01Cur.t .far ((ag ((ag ((ag ((ag a).1)).1)).1)).1)),BG ((ag ((ag ((ag ((ag a).1)).1)).1)).2)],.no,.no,.no,.no,.no,.no,BM (Int.tmod (IntKind.wrap .i64 ((IntKind.wrap .i64 ((IntKind.wrap .i64 ((IntKind.wrap .i64 (((ag a).2)*(16777216:Int)))+(IntKind.wrap .i64 (((ag ((ag a).1)).2)*(65536:Int)))))+(IntKind.wrap .i64 (((ag ((ag ((ag a).1)).1)).2)*(256:Int)))))+((ag ((ag ((ag ((ag a).1)).1)).1)).2))) b)] (AC c<|AC f<|AV (ψ:=fun k=>E.C k 30 [.box () (Pl01Cur.t .far a)]=some [(true,Pl01Cur.t .far ((ag a).1)),BG ((ag a).2)]) (fy a d)<|AV (ψ:=fun k=>E.C k 30 [.box () (Pl01Cur.t .far ((ag a).1))]=some [(true,Pl01Cur.t .far ((ag ((ag a).1)).1)),BG ((ag ((ag a).1)).2)]) (fy ((ag a).1) e)<|AV (ψ:=fun k=>E.C k 30 [.box () (Pl01Cur.t .far ((ag ((ag a).1)).1))]=some [(true,Pl01Cur.t .far ((ag ((ag ((ag a).1)).1)).1)),BG ((ag ((ag ((ag a).1)).1)).2)]) (fy ((ag ((ag a).1)).1) g)<|AV (ψ:=fun k=>E.C k 30 [.box () (Pl01Cur.t .far ((ag ((ag ((ag a).1)).1)).1))]=some [(true,Pl01Cur.t .far ((ag ((ag ((ag ((ag a).1)).1)).1)).1)),BG ((ag ((ag ((ag ((ag a).1)).1)).1)).2)]) (fy ((ag ((ag ((ag a).1)).1)).1) h)<|AC (p:=eD E.tab .rem 3 (.int .i64 (IntKind.wrap .i64 ((IntKind.wrap .i64 ((IntKind.wrap .i64 ((IntKind.wrap .i64 (((ag a).2)*(16777216:Int)))+(IntKind.wrap .i64 (((ag ((ag a).1)).2)*(65536:Int)))))+(IntKind.wrap .i64 (((ag ((ag ((ag a).1)).1)).2)*(256:Int)))))+((ag ((ag ((ag ((ag a).1)).1)).1)).2)))) (.int .i64 b)=some (.int .i64 (Int.tmod (IntKind.wrap .i64 ((IntKind.wrap .i64 ((IntKind.wrap .i64 ((IntKind.wrap .i64 (((ag a).2)*(16777216:Int)))+(IntKind.wrap .i64 (((ag ((ag a).1)).2)*(65536:Int)))))+(IntKind.wrap .i64 (((ag ((ag ((ag a).1)).1)).2)*(256:Int)))))+((ag ((ag ((ag ((ag a).1)).1)).1)).2))) b))) (yL i)<|AN))
noncomputable def aI (c:Pl01Cur)(n:Int):Pl01Cur×Int:=(eM c n).getD (c,0)
theorem qU {a n:Int}(b:0≤a)(c:0<n):0≤Int.tmod a n∧Int.tmod a n<n:=⟨Int.tmod_nonneg n b,Int.tmod_lt_of_pos a c⟩
theorem sF (c:Pl01Cur)(n:Int)(h:dN c):eM c n=some (aI c n)∧dN (aI c n).1∧0≤(aI c n).2∧(0<n→(aI c n).2<n):=by
 have e:∃r,eM c n=some r∧dN r.1∧0≤r.2∧(0<n→r.2<n):=by
  obtain⟨-,b,t,u⟩:=kk c h;obtain⟨-,j,v,w⟩:=kk _ b;obtain⟨-,k,x,y⟩:=kk _ j;obtain⟨-,a,l,z⟩:=kk _ k;unfold eM;by_cases q:n≤0
  ·rw[DF q,cond_true];exact⟨_,rfl,h,Int.le_refl 0,fun g=>absurd g (by omega)⟩
  ·rw[DE q,Eb];by_cases m:n≤256
   ·have d:n≠0:=by omega
    have o:=qU (n:=n) t (by omega);simp only[DF m,cond_true,BZ h,BZ d];exact⟨_,rfl,b,o.1,fun _=>o.2⟩
   ·have d:n≠0:=by omega
    simp only[DE m,Eb,BZ h,BZ b,BZ j,BZ k,BZ d];refine⟨_,rfl,a,?_,?_⟩
    ·refine(qU ?_ (by omega)).1;generalize (ag c).2=f at *;generalize (ag (ag c).1).2=i at *;generalize (ag (ag (ag c).1).1).2=s at *;generalize (ag (ag (ag (ag c).1).1).1).2=A at *;rw[fO (f*16777216) (by omega) (by omega),fO (i*65536) (by omega) (by omega),fO (s*256) (by omega) (by omega),fO (f*16777216+i*65536) (by omega) (by omega),fO (f*16777216+i*65536+s*256) (by omega) (by omega),fO _ (by omega) (by omega)];omega
    ·intro _;exact Int.tmod_lt_of_pos _ (by omega)
 obtain⟨r,a,l⟩:=e;have p:aI c n=r:=by unfold aI;rw[a];rfl
 rw[p];exact⟨a,l⟩
theorem sC (a:Pl01Cur)(b:Int)(h:dN a)(_:b≤1000000000):Does E 31 [.box () (Pl01Cur.t .far a),BJ b] [(true,Pl01Cur.t .far ((aI a b).1)),BG ((aI a b).2)]:=by exact tZ a b _ (sF a b h).1
inductive kY where|x0 (v4:List Int)
def fX (v4:List Int)(v5:Int)(a:List Int)(b c:Int):US:=stL 21 [(3,.pb 7 0),(4,.one (BO 1 (v4.map etI))),(5,BJ v5),(7,.box () [BP 1 (a.map etY),tI b,tI c])]
def gO (a:List Int):US:=stL 21 [(4,.one (BO 1 (a.map etI)))]
abbrev kX:US→Exit→US→Prop:=Round E 7 (aS Try.f7 0)
def qm (v4:List Int)(v5:Int)(a:List Int)(b c:Int):kY→Prop| .x0 d=>Loops E 7 (aS Try.f7 0) (fX v4 v5 a b c) (.exit 0) (gO d)
noncomputable def cI  : Nat→(List Int)→Int→(List Int)→Int→Int→Option kY| 0,_,_,_,_,_=>none|n+1,v4,v5,a,b,c=>cond (decide (v5<(12:Int))) (if dN (Pl01Cur.mk a b c)then if(10000:Int)≤1000000000 then if(v4.length+([(aI (Pl01Cur.mk a b c) 10000).2]).length)*8≤140737488355328∧v4.length+([(aI (Pl01Cur.mk a b c) 10000).2]).length≤4611686018427387904 then cI n (v4++([(aI (Pl01Cur.mk a b c) 10000).2])) (inc v5) (((aI (Pl01Cur.mk a b c) 10000).1).f0) (((aI (Pl01Cur.mk a b c) 10000).1).f1) (((aI (Pl01Cur.mk a b c) 10000).1).f2)else none else none else none) (some (.x0 v4))
theorem ql  (n:Nat):∀(v4:List Int)(v5:Int)(a:List Int)(b c:Int),Ans (cI n v4 v5 a b c) (qm v4 v5 a b c):=by
 induction n with
 |zero=>intros;exact Ans.none
 |succ n e =>
  intro v4 v5 a b c;unfold cI;apply Bv<;>intro d
  ·apply Bx;intro f;apply Bx;intro g;apply Bx;intro h;have r:kX (fX v4 v5 a b c) .normal (fX (v4++([(aI (Pl01Cur.mk a b c) 10000).2])) (inc v5) (((aI (Pl01Cur.mk a b c) 10000).1).f0) (((aI (Pl01Cur.mk a b c) 10000).1).f1) (((aI (Pl01Cur.mk a b c) 10000).1).f2)):=RP [.b true,.ret [(true,Pl01Cur.t .far ((aI (Pl01Cur.mk a b c) 10000).1)),BG ((aI (Pl01Cur.mk a b c) 10000).2)],.rows ((v4++([(aI (Pl01Cur.mk a b c) 10000).2])).map etI)] (AC d<|AV (ψ:=fun k=>E.C k 31 [.box () (Pl01Cur.t .far (Pl01Cur.mk a b c)),BJ (10000:Int)]=some [(true,Pl01Cur.t .far ((aI (Pl01Cur.mk a b c) 10000).1)),BG ((aI (Pl01Cur.mk a b c) 10000).2)]) (sC (Pl01Cur.mk a b c) 10000 f g)<|AAp etI (fun _=>rfl) h<|AN);exact(e (v4++([(aI (Pl01Cur.mk a b c) 10000).2])) (inc v5) (((aI (Pl01Cur.mk a b c) 10000).1).f0) (((aI (Pl01Cur.mk a b c) 10000).1).f1) (((aI (Pl01Cur.mk a b c) 10000).1).f2)).mono fun y i=>by cases y<;>exact Bt r i
  ·exact Bs (Bu (show kX (fX v4 v5 a b c) (.exit 0) (gO v4)from RP [.b false] (AC d<|AN)))
noncomputable def dF (a:List Int):Option ((List Int)):=
  if a.length≤1050000 then if dN (cb a)then(cI 9223372036854775808 ([]) 0 (((ag (cb a)).1).f0) (((ag (cb a)).1).f1) (((ag (cb a)).1).f2)).bind fun y=>match y with
   | .x0 b=>(some (b))else none else none
theorem qN (x0:List Int):Ans (dF x0) (fun r=>Does E 7 [.one (BP 1 (x0.map etY))] [(false,[BO 1 (r.map etI)])]):=by
 unfold dF;apply Bx;intro c;apply Bx;intro d;apply Bw;intro y b;replace b:=ql 9223372036854775808 ([]) 0 (((ag (cb x0)).1).f0) (((ag (cb x0)).1).f1) (((ag (cb x0)).1).f2) y b;cases y with
 |x0 a =>have e:=b;exact Bs (DP Try.f7 [.ret [(false,BO 3 [(Pl01Cur.t .far (cb x0)).map T.holeF]:: .any::(Pl01Cur.t .far (cb x0)).filter T.isFar)],.ret [(true,Pl01Cur.t .far ((ag (cb x0)).1)),BG ((ag (cb x0)).2)],.lp (.exit 0) (gO a)] (AD (vE x0 c)<|AV (ψ:=fun k=>E.C k 30 [.box () (Pl01Cur.t .far (cb x0))]=some [(true,Pl01Cur.t .far ((ag (cb x0)).1)),BG ((ag (cb x0)).2)]) (fy (cb x0) d)<|AL e<|AN))
theorem tO:∀(m n:Nat)(v:List Int)(k:Int)(c:Pl01Cur),k+(m:Int)=12→m<n→v.length+m≤1000→0≤k→dN c →
  ∃l,cI n v k c.f0 c.f1 c.f2=some (.x0 l)∧l.length=v.length+m∧∀x∈l,x∈v∨0≤x∧x<10000
 |m,0,v,k,c,_,e,_,_,_=>by omega
 | 0,n+1,v,k,c,f,_,_,_,_=>by unfold cI;rw[DE (by omega),Eb];exact⟨v,rfl,rfl,fun x a=>.inl a⟩
 |m+1,n+1,v,k,c,f,e,s,t,hc=>by
  have hi:inc k=k+1:=xr k (by omega) (by omega);have g:(10000:Int)≤1000000000:=by omega
  obtain⟨-,h,i,j⟩:=sF c 10000 hc;have b:=j (by omega);have d:dN (Pl01Cur.mk c.f0 c.f1 c.f2):=hc;obtain⟨l,o,p,r⟩:=tO m n (v++[(aI c 10000).2]) (k+1) (aI c 10000).1 (by omega) (by omega) (by rw[List.length_append,DO];omega) (by omega) h;unfold cI;rw[DF (by omega),cond_true];simp only[BZ d,BZ g];rw[show Pl01Cur.mk c.f0 c.f1 c.f2=c from rfl,BZ (by rw[DO];omega),hi,o];refine⟨l,rfl,by rw[p,List.length_append,DO];omega,fun x a=>?_⟩;rcases r x a with q|q
  ·rcases Cm.1 q with q|q
   ·exact .inl q
   ·rw[B4]at q;subst q;exact .inr ⟨i,b⟩
  ·exact .inr q
noncomputable def df (x:List Int):List Int:=(dF x).getD []
theorem mF (x:List Int)(h:x.length≤1050000):dF x=some (df x)∧(df x).length=12∧∀y∈df x,0≤y∧y<10000:=by
 have e:∃r,dF x=some r∧r.length=12∧∀y∈r,0≤y∧y<10000:=by obtain⟨-,a⟩:=xw x h;obtain⟨-,c,k⟩:=kk _ a;obtain⟨l,d,f,g⟩:=tO 12 9223372036854775808 [] 0 _ (by omega) (by omega) (by simp) (by omega) c;unfold dF;simp only[BZ h,BZ a,d,BU];exact⟨l,rfl,by simpa using f,fun y i=>(g y i).elim (fun q=>by cases q) id⟩
 obtain⟨r,b,j⟩:=e;have p:df x=r:=by unfold df;rw[b];rfl
 rw[p];exact⟨b,j⟩
theorem lB (a:List Int)(h:a.length≤1050000):Does E 7 [.one (BP 1 (a.map etY))] [(false,[BO 1 ((df a).map etI)])]:=by exact qN a _ (mF a h).1
noncomputable def vu (a:List Int):Option (Bool):=some (decide ((a.length:Int)>(1048576:Int)))
theorem y9 (a:List Int):Ans (vu a) (fun r=>Does E 6 [.one (BP 1 (a.map etY))] [BH r]):=by unfold vu;exact Bs (DP Try.f6 [BM (a.length:Int)] (ALn a etY<|AN))
def sk (x:List Int):Bool:=decide ((x.length:Int)>(1048576:Int))
theorem qt (a:List Int):Does E 6 [.one (BP 1 (a.map etY))] [BH (sk a)]:=by exact y9 a _ rfl
end
end Go.Proofs.Yticaelmbkfeeaaa.Am
