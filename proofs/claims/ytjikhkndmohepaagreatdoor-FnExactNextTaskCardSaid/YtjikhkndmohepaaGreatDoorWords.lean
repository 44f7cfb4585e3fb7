/- Numbers in words. -/
import Derived.Test.YtjikhkndmohepaaGreatDoorEnv
import Derived.Test.YtjikhkndmohepaaGreatDoorShelf
namespace Go.Proofs.YtjikhkndmohepaaGreatDoor.Am
open Go
set_option linter.unusedVariables false
set_option linter.unusedSimpArgs false
section
open Go.Proofs Classical
set_option maxRecDepth 100000
structure GCron where
 f0:List Int
 f1:List Int
 f2:List Int
 f3:List Int
 f4:List Int
def VJ (k:Kd)(x:GCron):List (T Unit):=[.s k () 1 (x.f0.map etI),.s k () 1 (x.f1.map etI),.s k () 1 (x.f2.map etI),.s k () 1 (x.f3.map etI),.s k () 1 (x.f4.map etI)]
instance:ab GCron:=⟨fun x=>ab.sm x.f0∧ab.sm x.f1∧ab.sm x.f2∧ab.sm x.f3∧ab.sm x.f4⟩
instance:Wf GCron:=⟨fun x=>Wf.wf x.f0∧Wf.wf x.f1∧Wf.wf x.f2∧Wf.wf x.f3∧Wf.wf x.f4⟩
structure GSession where
 f0:Int
 f1:Int
 f2:Y9
def VN (x:GSession):List (T Unit):=[tI x.f0,tI x.f1,tS x.f2]
instance:ab GSession:=⟨fun x=>ab.sm x.f2⟩
instance:Wf GSession:=⟨fun x=>Wf.wf x.f2⟩
structure GTask where
 f0:Y9
 f1:Y9
 f2:Int
 f3:Bool
 f4:List Y9
def VQ (k:Kd)(x:GTask):List (T Unit):=[tS x.f0,tS x.f1,tI x.f2,tB x.f3,.s k () 1 (x.f4.map etS)]
instance:ab GTask:=⟨fun x=>ab.sm x.f0∧ab.sm x.f1∧ab.sm x.f4⟩
instance:Wf GTask:=⟨fun x=>Wf.wf x.f0∧Wf.wf x.f1∧Wf.wf x.f4⟩
structure GDag where
 f0:Y9
 f1:Y9
 f2:Int
 f3:Int
 f4:Bool
 f5:List GTask
def VK (k q:Kd)(x:GDag):List (T Unit):=[tS x.f0,tS x.f1,tI x.f2,tI x.f3,tB x.f4,.s k () 5 (x.f5.map (VQ q))]
instance:ab GDag:=⟨fun x=>ab.sm x.f0∧ab.sm x.f1∧ab.sm x.f5⟩
instance:Wf GDag:=⟨fun x=>Wf.wf x.f0∧Wf.wf x.f1∧Wf.wf x.f5⟩
structure GPlan where
 f0:GDag
 f1:Bool
 f2:Int
 f3:Int
def VL (k q:Kd)(x:GPlan):List (T Unit):=VK k q x.f0++[tB x.f1]++[tI x.f2]++[tI x.f3]
instance:ab GPlan:=⟨fun x=>ab.sm x.f0⟩
instance:Wf GPlan:=⟨fun x=>Wf.wf x.f0⟩
structure GSpan where
 f0:Int
 f1:Int
def VO (x:GSpan):List (T Unit):=[tI x.f0,tI x.f1]
instance:ab GSpan:=⟨fun x=>True⟩
instance:Wf GSpan:=⟨fun x=>True⟩
structure GState where
 f0:Int
 f1:Int
 f2:Int
 f3:Int
def VP (x:GState):List (T Unit):=[tI x.f0,tI x.f1,tI x.f2,tI x.f3]
instance:ab GState:=⟨fun x=>True⟩
instance:Wf GState:=⟨fun x=>True⟩
structure GRun where
 f0:Y9
 f1:GSpan
 f2:Int
 f3:List GState
def VM (k:Kd)(x:GRun):List (T Unit):=[tS x.f0]++VO x.f1++[tI x.f2]++[.s k () 4 (x.f3.map VP)]
instance:ab GRun:=⟨fun x=>ab.sm x.f0∧ab.sm x.f1∧ab.sm x.f3⟩
instance:Wf GRun:=⟨fun x=>Wf.wf x.f0∧Wf.wf x.f1∧Wf.wf x.f3⟩
structure GBoard where
 f0:List GSession
 f1:List GPlan
 f2:List GRun
 f3:Int
 f4:Int
def VI (k q:Kd)(x:GBoard):List (T Unit):=[.s k () 3 (x.f0.map VN),.s k () 9 (x.f1.map (VL q q)),.s k () 5 (x.f2.map (VM q)),tI x.f3,tI x.f4]
instance:ab GBoard:=⟨fun x=>ab.sm x.f0∧ab.sm x.f1∧ab.sm x.f2⟩
instance:Wf GBoard:=⟨fun x=>Wf.wf x.f0∧Wf.wf x.f1∧Wf.wf x.f2⟩
structure LDag where
 f0:Y9
 f1:Y9
 f2:Int
 f3:Int
 f4:Bool
 f5:List GTask
def VU (k q:Kd)(x:LDag):List (T Unit):=[tS x.f0,tS x.f1,tI x.f2,tI x.f3,tB x.f4,.s k () 5 (x.f5.map (VQ q))]
instance:ab LDag:=⟨fun x=>ab.sm x.f0∧ab.sm x.f1∧ab.sm x.f5⟩
instance:Wf LDag:=⟨fun x=>Wf.wf x.f0∧Wf.wf x.f1∧Wf.wf x.f5⟩
structure LPlan where
 f0:LDag
 f1:Bool
 f2:Int
 f3:Int
def VV (k q:Kd)(x:LPlan):List (T Unit):=VU k q x.f0++[tB x.f1]++[tI x.f2]++[tI x.f3]
instance:ab LPlan:=⟨fun x=>ab.sm x.f0⟩
instance:Wf LPlan:=⟨fun x=>Wf.wf x.f0⟩
structure LRun where
 f0:Y9
 f1:GSpan
 f2:Int
 f3:List GState
def VW (k:Kd)(x:LRun):List (T Unit):=[tS x.f0]++VO x.f1++[tI x.f2]++[.s k () 4 (x.f3.map VP)]
instance:ab LRun:=⟨fun x=>ab.sm x.f0∧ab.sm x.f1∧ab.sm x.f3⟩
instance:Wf LRun:=⟨fun x=>Wf.wf x.f0∧Wf.wf x.f1∧Wf.wf x.f3⟩
structure LBoard where
 f0:List GSession
 f1:List LPlan
 f2:List LRun
 f3:Int
 f4:Int
def VR (k q:Kd)(x:LBoard):List (T Unit):=[.s k () 3 (x.f0.map VN),.s k () 9 (x.f1.map (VV q q)),.s k () 5 (x.f2.map (VW q)),tI x.f3,tI x.f4]
instance:ab LBoard:=⟨fun x=>ab.sm x.f0∧ab.sm x.f1∧ab.sm x.f2⟩
instance:Wf LBoard:=⟨fun x=>Wf.wf x.f0∧Wf.wf x.f1∧Wf.wf x.f2⟩
def eS (s a:Y9):List Y9:=Lib.splitB a 0 (Lib.countB s a) s
def bh (xs:List Y9)(a:Y9):Y9:=⟨(Lib.join (xs.map (·.data.toList)) a.data.toList).toArray⟩
def bE (n:Int):Y9:=⟨(Lib.itoa n).toArray⟩
def aQ (s a:Y9):Y9×Y9×Bool:=(⟨(Lib.cut s.data.toList a.data.toList).1.toArray⟩,⟨(Lib.cut s.data.toList a.data.toList).2.1.toArray⟩,(Lib.cut s.data.toList a.data.toList).2.2)
def cb (s p:Y9):Y9×Bool:=(⟨(Lib.trimPrefix s.data.toList p.data.toList).toArray⟩,Lib.hasPrefix s.data.toList p.data.toList)
noncomputable def eO (l:List Int):List Int:=l.mergeSort fun x y=>decide (x≤y)
noncomputable def ks (l:List Int):List Int:=Lib.compact l
theorem mh (a b:Y9)(c:a.size<4294967281)(d:1≤b.size):Does E 137 [V4 a,V4 b] [(false,[V7 1 ((eS a b).map etS)])]:=by
 refine Does.orc ⟨0,fun k _=>?_⟩;have o:∀C us,E.orc C 137 us=EY us:=fun _ _=>rfl
 refine(o _ _).trans ?_;show(if _ then _ else _)=_;rw[Wa ⟨c,d⟩];rfl
theorem fj (a b:Y9)(c:a.size<4294967281):Does E 160 [V4 a,V4 b] [VZ (aQ a b).1,VZ (aQ a b).2.1,VY (aQ a b).2.2]:=by
 refine Does.orc ⟨0,fun k _=>?_⟩;have o:∀C us,E.orc C 160 us=Oy us:=fun _ _=>rfl
 refine(o _ _).trans ?_;show(if _ then _ else _)=_;rw[Wa c];rfl
theorem bW (a b:Y9)  : Does E 158 [V4 a,V4 b] [VZ (cb a b).1,VY (cb a b).2]:=by
 refine Does.orc ⟨0,fun k _=>?_⟩;have o:∀C us,E.orc C 158 us=tE us:=fun _ _=>rfl
 refine(o _ _).trans ?_;rfl
theorem Fc (a:Int)(h : -9223372036854775808≤a∧a≤9223372036854775807):Does E 142 [V2 a] [VZ (bE a)]:=by
 refine Does.orc ⟨0,fun k _=>?_⟩;have o:∀C us,E.orc C 142 us=IW us:=fun _ _=>rfl
 refine(o _ _).trans ?_;show(if _ then _ else _)=_;rw[Wa h];rfl
theorem jh (a:List Y9)(b:Y9)(h:a.length≤140737488355328∧(bh a b).size≤140737488355328):Does E 131 [.one (V8 1 (a.map etS)),V4 b] [VZ (bh a b)]:=by
 refine Does.orc ⟨0,fun k _=>?_⟩;have o:∀C us,E.orc C 131 us=IX us:=fun _ _=>rfl
 refine(o _ _).trans ?_;show(u7 _).bind _=_;rw[E1,V9,Wa ⟨h.1,h.2⟩];rfl
theorem tu (a:List Int)(h:a.length<4611686018427387904):Does E 117 [.one (V7 1 (a.map etI))] [(false,[V7 1 ((eO a).map etI)])]:=by
 refine Does.orc ⟨0,fun k _=>?_⟩;have o:∀C us,E.orc C 117 us=I5 us:=fun _ _=>rfl
 refine(o _ _).trans ?_;show(mO _).bind _=_;rw[tO,V9,Wa h];rfl
theorem xG (a:List Int)(h:a.length≤9223372036854775807):Does E 141 [.one (V7 1 (a.map etI))] [(false,[.any]),(false,[V7 1 ((ks a).map etI)])]:=by
 refine Does.orc ⟨0,fun k _=>?_⟩;have o:∀C us,E.orc C 141 us=xM us:=fun _ _=>rfl
 refine(o _ _).trans ?_;show(mO _).bind _=_;rw[tO,V9,Wa h];rfl
theorem BF (a:List Int)  : Does E 140 [.one (V7 1 (a.map etI))] [(false,[.any]),(false,[V7 1 ((id a).map etI)])]:=by
 refine Does.orc ⟨0,fun k _=>?_⟩;have o:∀C us,E.orc C 140 us=IQ us:=fun _ _=>rfl
 refine(o _ _).trans ?_;show(mO _).bind _=_;rw[tO,V9];rfl
def ag (x a b:Int):Bool:=decide (x≥a)&&decide (x≤b)
theorem we {α:Type}{l:List α}{k:Int}(h:ag k 0 (IntKind.wrap .i64 ((l.length:Int)-1))=true)(a:l.length≤1050000):0≤k∧k<(l.length:Int):=by unfold ag at h;rw[du _ (by omega) (by omega)]at h;simp only[Ww,W3]at h;omega
theorem cA {α:Type}{l:List α}{k:Int}(h:0≤k∧k<(l.length:Int)):∃x,ak l k=some x∧x∈l:=by unfold ak;rw[Wa h.1,Wg (by omega)];exact⟨_,rfl,Xs _⟩
theorem RJ {α:Type}[ab α]:ab.sm ([]:List α):=⟨Yg _,fun y a=>by cases a⟩
noncomputable def Ba (a b c:Int):Option (Bool):=cond (decide (a≥b)) (some (decide (a≤c))) (some (false))
theorem RB (a b c:Int):Ans (Ba a b c) (fun r=>Does E 26 [V2 a,V2 b,V2 c] [VY r]):=by
 unfold Ba;apply VC<;>intro d
 ·exact Vz (DP Tryz.f26 [.b true] (AC d<|AN))
 ·exact Vz (DP Tryz.f26 [.b false] (AC d<|AN))
theorem ae (a:Int)(b:Int)(c:Int):Does E 26 [V2 a,V2 b,V2 c] [VY (ag a b c)]:=by exact RB a b c _ (by unfold Ba ag;cases decide (a≥b)<;>rfl)
noncomputable def wd (a b c:Int):Option (Bool):=cond (decide (a≥b)) (some (decide (a≤c))) (some (false))
theorem Mr (a b c:Int):Ans (wd a b c) (fun r=>Does E 66 [V2 a,V2 b,V2 c] [VY r]):=by
 unfold wd;apply VC<;>intro d
 ·exact Vz (DP Tryz.f66 [.b true] (AC d<|AN))
 ·exact Vz (DP Tryz.f66 [.b false] (AC d<|AN))
theorem ao (a:Int)(b:Int)(c:Int):Does E 66 [V2 a,V2 b,V2 c] [VY (ag a b c)]:=by exact Mr a b c _ (by unfold wd ag;cases decide (a≥b)<;>rfl)
noncomputable def lM (a:Int):Option (Int):=cond (decide (a<(10:Int))) (some (IntKind.wrap .u8 (IntKind.wrap .i64 ((48:Int)+a)))) (some (IntKind.wrap .u8 (IntKind.wrap .i64 ((IntKind.wrap .i64 ((97:Int)+a))-(10:Int)))))
theorem Ii (a:Int):Ans (lM a) (fun r=>Does E 136 [V2 a] [(false,[tY r])]):=by
 unfold lM;apply VC<;>intro b
 ·exact Vz (DP Tryz.f136 [.b true] (AC b<|AN))
 ·exact Vz (DP Tryz.f136 [.b false] (AC b<|AN))
theorem Ta {x:Int}(a:0≤x)(b:x<256):IntKind.wrap .u8 x=x:=by simp only[IntKind.wrap,IntKind.bits,IntKind.signed];simp;omega
noncomputable def dA (x:Int):Int:=(lM x).getD 0
theorem JH (d:Nat)(h:d<10):dA (d:Int)=48+(d:Int):=by unfold dA lM;rw[Wi (by omega),Wn,Yd,du _ (by omega) (by omega),Ta (by omega) (by omega)]
theorem yK (a:Int):Does E 136 [V2 a] [(false,[tY (dA a)])]:=by exact Ii a _ (by unfold dA lM;cases decide (a<10)<;>rfl)
noncomputable def wb (a:Int):Option (Y9):=if -9223372036854775808≤a∧a≤9223372036854775807 then some (bE a)else none
theorem Mi (a:Int):Ans (wb a) (fun r=>Does E 130 [V2 a] [VZ r]):=by unfold wb;apply VE;intro b;exact Vz (DP Tryz.f130 [.ret [VZ (bE a)]] (AD (Fc a b)<|AN))
theorem vR (a:Int)(h : -9223372036854775808≤a∧a≤9223372036854775807):Does E 130 [V2 a] [VZ (bE a)]:=by exact Mi a _ (by unfold wb;rw[Wa h])
inductive A8 where|x0 (v4:Y9)
def kU (v0:Int)(v3:Bool)(v4:Y9):US:=stL 30 [(0,V2 v0),(3,V3 v3),(4,V4 v4)]
def nB (v3:Bool)(a:Y9):US:=stL 30 [(3,V3 v3),(4,V4 a)]
abbrev uU:US→Exit→US→Prop:=Round E 123 (an Tryz.f123 0)
def K4 (v0:Int)(v3:Bool)(v4:Y9):A8→Prop| .x0 a=>Loops E 123 (an Tryz.f123 0) (kU v0 v3 v4) (.exit 0) (nB v3 a)
noncomputable def ib  : Nat→Int→Bool→Y9→Option A8| 0,_,_,_=>none|n+1,v0,v3,v4=>cond (v0 != 0) (cond (decide ((Int.tmod v0 (10:Int))<(0:Int))) (if(strOfNums ([dA (IntKind.wrap .i64 (0-(Int.tmod v0 10)))])).size+v4.size≤dC then ib n (IntKind.wrap .i64 (Int.tdiv v0 10)) v3 ((strOfNums ([dA (IntKind.wrap .i64 (0-(Int.tmod v0 10)))]))++v4)else none) (if(strOfNums ([dA (Int.tmod v0 10)])).size+v4.size≤dC then ib n (IntKind.wrap .i64 (Int.tdiv v0 10)) v3 ((strOfNums ([dA (Int.tmod v0 10)]))++v4)else none)) (some (.x0 v4))
theorem A7  (n:Nat):∀(v0:Int)(v3:Bool)(v4:Y9),Ans (ib n v0 v3 v4) (K4 v0 v3 v4):=by
 induction n with
 |zero=>intros;exact Ans.none
 |succ n d =>
  intro v0 v3 v4;unfold ib;apply VC<;>intro a
  ·apply VC<;>intro e
   ·apply VE;intro b;have r:uU (kU v0 v3 v4) .normal (kU (IntKind.wrap .i64 (Int.tdiv v0 10)) v3 ((strOfNums ([dA (IntKind.wrap .i64 (0-(Int.tmod v0 10)))]))++v4)):=RP [.b true,.no,.b true,.ret [(false,[tY (dA (IntKind.wrap .i64 (0-(Int.tmod v0 10))))])],.val (.string (strOfNums ([dA (IntKind.wrap .i64 (0-(Int.tmod v0 10)))]))),.val (.string ((strOfNums ([dA (IntKind.wrap .i64 (0-(Int.tmod v0 10)))]))++v4))] (AC a<|AC e<|AD (yK (IntKind.wrap .i64 (0-(Int.tmod v0 10))))<|AC (p:=(eR (((([dA (IntKind.wrap .i64 (0-(Int.tmod v0 10)))]).map etY).drop 0).take (([dA (IntKind.wrap .i64 (0-(Int.tmod v0 10)))]).map etY).length)).map strOfNums=some (strOfNums ([dA (IntKind.wrap .i64 (0-(Int.tmod v0 10)))]))) (by simp only[WS,WK];exact RN)<|AC (kp (tab:=E.tab) (t:=9) b)<|AN);exact(d (IntKind.wrap .i64 (Int.tdiv v0 10)) v3 ((strOfNums ([dA (IntKind.wrap .i64 (0-(Int.tmod v0 10)))]))++v4)).mono fun y c=>by cases y<;>exact VA r c
   ·apply VE;intro b;have r:uU (kU v0 v3 v4) .normal (kU (IntKind.wrap .i64 (Int.tdiv v0 10)) v3 ((strOfNums ([dA (Int.tmod v0 10)]))++v4)):=RP [.b true,.no,.b false,.ret [(false,[tY (dA (Int.tmod v0 10))])],.val (.string (strOfNums ([dA (Int.tmod v0 10)]))),.val (.string ((strOfNums ([dA (Int.tmod v0 10)]))++v4))] (AC a<|AC e<|AD (yK (Int.tmod v0 10))<|AC (p:=(eR (((([dA (Int.tmod v0 10)]).map etY).drop 0).take (([dA (Int.tmod v0 10)]).map etY).length)).map strOfNums=some (strOfNums ([dA (Int.tmod v0 10)]))) (by simp only[WS,WK];exact RN)<|AC (kp (tab:=E.tab) (t:=9) b)<|AN);exact(d (IntKind.wrap .i64 (Int.tdiv v0 10)) v3 ((strOfNums ([dA (Int.tmod v0 10)]))++v4)).mono fun y c=>by cases y<;>exact VA r c
  ·exact Vz (VB (show uU (kU v0 v3 v4) (.exit 0) (nB v3 v4)from RP [.b false] (AC a<|AN)) (by intro h;cases h))
noncomputable def r6 (b:Int):Option (Y9):=
  cond (b==(0:Int))
   (some ((⟨#[48]⟩:Y9)))
   (cond (decide (b<(0:Int)))
    ((ib 9223372036854775808 b true ByteArray.empty).bind fun y=>match y with
     | .x0 a=>(if(⟨#[45]⟩:Y9).size+a.size≤dC then some ((⟨#[45]⟩:Y9)++a)else none))
    ((ib 9223372036854775808 b false ByteArray.empty).bind fun y=>match y with
     | .x0 a=>(some (a))))
theorem M8 (x0:Int):Ans (r6 x0) (fun r=>Does E 123 [V2 x0] [VZ r]):=by
 unfold r6;apply VC<;>intro c
 ·exact Vz (DP Tryz.f123 [.b true] (AC c<|AN))
 ·apply VC<;>intro e
  ·apply VD;intro y b;replace b:=A7 9223372036854775808 x0 true ByteArray.empty y b;cases y with
   |x0 a =>have d:=b;apply VE;intro f;exact Vz (DP Tryz.f123 [.b false,.b true,.lp (.exit 0) (nB true a),.val (.string ((⟨#[45]⟩:Y9)++a))] (AC c<|AC e<|AL d<|AC (kp (tab:=E.tab) (t:=9) f)<|AN))
  ·apply VD;intro y b;replace b:=A7 9223372036854775808 x0 false ByteArray.empty y b;cases y with
   |x0 a =>have d:=b;exact Vz (DP Tryz.f123 [.b false,.b false,.lp (.exit 0) (nB false a)] (AC c<|AC e<|AL d<|AN))
theorem Ex (d:Nat)(h:d<10):strOfNums [dA (d:Int)]=ofTx [UInt8.ofNat (48+d)]:=by
 rw[JH d h];unfold strOfNums ofTx;have:(48+(d:Int)).toNat=48+d:=by omega
 simp[this]
def zV (u:Nat):List UInt8:=if u=0 then []else Lib.decDigits u
theorem Qw (u:Nat)(h:0<u):zV u=zV (u/10)++[UInt8.ofNat (48+u % 10)]:=by unfold zV;rw[Wo (by omega),LY u h]
theorem Se (u:Nat)(h:u<10 ^ 19):(zV u).length≤19:=by
 unfold zV;split
 ·simp
 ·exact xP 18 u h
theorem GN (b:Bool):∀(n:Nat)(v:Int)(s:List UInt8), -9223372036854775808≤v→v≤9223372036854775807→v.natAbs<10 ^ n→s.length+n≤100→∀m,n<m→ib m v b (ofTx s)=some (.x0 (ofTx (zV v.natAbs++s)))
 | 0,v,s,_,_,h,_,m,i=>by
  obtain⟨m,rfl⟩:∃k,m=k+1:=⟨m-1,by omega⟩
  have:v=0:=by simpa using h
  subst this;rfl
 |n+1,v,s,o,p,h,hs,m,i=>by
  obtain⟨m,rfl⟩:∃k,m=k+1:=⟨m-1,by omega⟩
  unfold ib;by_cases z:v=0
  ·subst z;rfl
  ·have hz:(v != 0)=true:=by simpa using z
   rw[hz,Wn];have a:0<v.natAbs:=by omega
   have hd:v.natAbs % 10<10:=Nat.mod_lt _ (by omega);have f:(Int.tdiv v 10).natAbs=v.natAbs/10:=by rw[Int.natAbs_tdiv];rfl
   have g:IntKind.wrap .i64 (Int.tdiv v 10)=Int.tdiv v 10:=du _ (by omega) (by omega);have j:(Int.tmod v 10).natAbs=v.natAbs % 10:=by rw[Int.natAbs_tmod];rfl
   have d:=GN b n (Int.tdiv v 10) ([UInt8.ofNat (48+v.natAbs % 10)]++s) (by omega) (by omega) (by rw[f];rw[Nat.pow_succ]at h;omega) (by simp;omega) m (by omega);rw[f, ←XM, ←Qw _ a]at d;have sz:∀l:List UInt8,(ofTx l).size=l.length:=fun l=>dQ _
   by_cases c:Int.tmod v 10<0
   ·have e:IntKind.wrap .i64 (0-Int.tmod v 10)=((v.natAbs % 10:Nat):Int):=by rw[du _ (by omega) (by omega)];omega
    rw[Wi c,Wn,e,Ex _ hd,Wa (by rw[sz,sz];simp[dC];omega),g,ru];exact d
   ·have e:Int.tmod v 10=((v.natAbs % 10:Nat):Int):=by omega
    rw[Wj c,Wu,e,Ex _ hd,Wa (by rw[sz,sz];simp[dC];omega),g,ru];exact d
theorem Qv (x:Int)(h : -9223372036854775808≤x∧x≤9223372036854775807):r6 x=some (bE x):=by
 unfold r6 bE Lib.itoa;by_cases z:x=0
 ·subst z;show some _=some _;rw[Wo (by omega),Lib.decDigits,dif_pos (by simp)];rfl
 ·have hz:(x==0)=false:=by simpa using z
  have hb:x.natAbs<10 ^ 19:=by have:(10:Nat) ^ 19=10000000000000000000:=rfl;omega
  have a:=fun b=>GN b 19 x [] h.1 h.2 hb (by simp) 9223372036854775808 (by omega)
  have d:ofTx []=ByteArray.empty:=rfl;rw[d]at a;have g:=Se _ hb;rw[hz,Wu,a,a];simp only[WG,V9];have sz:∀l:List UInt8,(ofTx l).size=l.length:=fun l=>dQ _
  have hd:zV x.natAbs=Lib.decDigits x.natAbs:=by unfold zV;rw[Wo (by omega)]
  by_cases c:x<0
  ·have e:(⟨#[45]⟩:Y9)=ofTx [45]:=rfl;rw[Wi c,Wn,Wa c,e,Wa (by rw[sz,sz];simp[dC];omega),ru,hd];rfl
  ·have f:x.natAbs=x.toNat:=by omega
   rw[Wj c,Wu,Wo c,hd,f];rfl
theorem rK (a:Int)(h : -9223372036854775808≤a∧a≤9223372036854775807):Does E 123 [V2 a] [VZ (bE a)]:=by exact M8 a _ (Qv a h)
inductive A9 where|ret (v2:List Y9) (v3:Bool)|x0 (v4:List Y9)
def cw (v0:Y9)(v4:List Y9)(v5 v6:Int):US:=stL 62 [(0,V4 v0),(4,.one (V7 1 (v4.map etS))),(5,V2 v5),(6,V2 v6)]
def mr (a:List Y9)(b:Bool):US:=stL 62 [(2,.one (V7 1 (a.map etS))),(3,V3 b)]
def nC (a:List Y9):US:=stL 62 [(4,.one (V7 1 (a.map etS)))]
abbrev ic:US→Exit→US→Prop:=Round E 107 (an Tryz.f107 0)
def K7 (v0:Y9)(v4:List Y9)(v5 v6:Int):A9→Prop| .ret a b=>Loops E 107 (an Tryz.f107 0) (cw v0 v4 v5 v6) .ret (mr a b)| .x0 c=>Loops E 107 (an Tryz.f107 0) (cw v0 v4 v5 v6) (.exit 0) (nC c)
noncomputable def dG (v0:Y9):Nat→(List Y9)→Int→Int→Option A9| 0,_,_,_=>none|n+1,v4,v5,v6=>cond (decide (v6≤(v0.size:Int))) (cond (decide (v6<(v0.size:Int))) (if 0≤v6∧v6<(v0.size:Int)then cond (decide ((iP v0 v6)<(32:Int))) (some (.ret ([]) false)) (cond (decide ((iP v0 v6)>(126:Int))) (some (.ret ([]) false)) (cond ((iP v0 v6) != 32) (dG v0 n v4 v5 (inc v6)) (cond (decide (v5<v6)) (if 0≤v5∧v5≤v6∧v6≤(v0.size:Int)then if(v4.length+([v0.extract v5.toNat v6.toNat]).length)*16≤140737488355328∧v4.length+([v0.extract v5.toNat v6.toNat]).length≤4611686018427387904 then dG v0 n (v4++([v0.extract v5.toNat v6.toNat])) (inc v6) (inc v6)else none else none) (dG v0 n v4 (inc v6) (inc v6)))))else none) (cond (decide (v5<v6)) (if 0≤v5∧v5≤v6∧v6≤(v0.size:Int)then if(v4.length+([v0.extract v5.toNat v6.toNat]).length)*16≤140737488355328∧v4.length+([v0.extract v5.toNat v6.toNat]).length≤4611686018427387904 then dG v0 n (v4++([v0.extract v5.toNat v6.toNat])) (inc v6) (inc v6)else none else none) (dG v0 n v4 (inc v6) (inc v6)))) (some (.x0 v4))
theorem K6 (v0:Y9)(n:Nat):∀(v4:List Y9)(v5 v6:Int),Ans (dG v0 n v4 v5 v6) (K7 v0 v4 v5 v6):=by
 induction n with
 |zero=>intros;exact Ans.none
 |succ n g =>
  intro v4 v5 v6;unfold dG;apply VC<;>intro d
  ·apply VC<;>intro b
   ·apply VE;intro a;apply VC<;>intro e
    ·exact Vz (VB (show ic (cw v0 v4 v5 v6) .ret (mr ([]) false)from RP [.b true,.b true,.b true] (AC d<|AC b<|AC a<|AC e<|AN)) (by intro h;cases h))
    ·apply VC<;>intro f
     ·exact Vz (VB (show ic (cw v0 v4 v5 v6) .ret (mr ([]) false)from RP [.b true,.b true,.b false,.b true] (AC d<|AC b<|AC a<|AC e<|AC a<|AC f<|AN)) (by intro h;cases h))
     ·apply VC<;>intro i
      ·have r:ic (cw v0 v4 v5 v6) .normal (cw v0 v4 v5 (inc v6)):=RP [.b true,.b true,.b false,.b false,.b true,.b true] (AC d<|AC b<|AC a<|AC e<|AC a<|AC f<|AC b<|AC a<|AC i<|AN);exact(g v4 v5 (inc v6)).mono fun y c=>by cases y<;>exact VA r c
      ·apply VC<;>intro j
       ·apply VE;intro k;apply VE;intro l;have r:ic (cw v0 v4 v5 v6) .normal (cw v0 (v4++([v0.extract v5.toNat v6.toNat])) (inc v6) (inc v6)):=RP [.b true,.b true,.b false,.b false,.b true,.b false,.b true,.rows ((v4++([v0.extract v5.toNat v6.toNat])).map etS)] (AC d<|AC b<|AC a<|AC e<|AC a<|AC f<|AC b<|AC a<|AC i<|AC j<|AC k<|AAp etS (fun _=>rfl) l<|AN);exact(g (v4++([v0.extract v5.toNat v6.toNat])) (inc v6) (inc v6)).mono fun y c=>by cases y<;>exact VA r c
       ·have r:ic (cw v0 v4 v5 v6) .normal (cw v0 v4 (inc v6) (inc v6)):=RP [.b true,.b true,.b false,.b false,.b true,.b false,.b false] (AC d<|AC b<|AC a<|AC e<|AC a<|AC f<|AC b<|AC a<|AC i<|AC j<|AN);exact(g v4 (inc v6) (inc v6)).mono fun y c=>by cases y<;>exact VA r c
   ·apply VC<;>intro a
    ·apply VE;intro e;apply VE;intro f;have r:ic (cw v0 v4 v5 v6) .normal (cw v0 (v4++([v0.extract v5.toNat v6.toNat])) (inc v6) (inc v6)):=RP [.b true,.b false,.b false,.b true,.rows ((v4++([v0.extract v5.toNat v6.toNat])).map etS)] (AC d<|AC b<|AC b<|AC a<|AC e<|AAp etS (fun _=>rfl) f<|AN);exact(g (v4++([v0.extract v5.toNat v6.toNat])) (inc v6) (inc v6)).mono fun y c=>by cases y<;>exact VA r c
    ·have r:ic (cw v0 v4 v5 v6) .normal (cw v0 v4 (inc v6) (inc v6)):=RP [.b true,.b false,.b false,.b false] (AC d<|AC b<|AC b<|AC a<|AN);exact(g v4 (inc v6) (inc v6)).mono fun y c=>by cases y<;>exact VA r c
  ·exact Vz (VB (show ic (cw v0 v4 v5 v6) (.exit 0) (nC v4)from RP [.b false] (AC d<|AN)) (by intro h;cases h))
noncomputable def r7 (d:Y9):Option ((List Y9)×Bool):=
  cond (decide ((d.size:Int)>(600:Int)))
   (some (([]:List Y9),false))
   ((dG d 9223372036854775808 ([]) 0 0).bind fun y=>match y with
    | .ret b c=>(some (b,c))
    | .x0 a=>(cond (decide ((a.length:Int)>(10:Int)))
     (some (([]:List Y9),false))
     (some (a,true))))
theorem Nb (x0:Y9):Ans (r7 x0) (fun r=>Does E 107 [V4 x0] [(false,[V7 1 (r.1.map etS)]),VY r.2]):=by
 unfold r7;apply VC<;>intro d
 ·exact Vz (DP Tryz.f107 [.b true] (AC d<|AN))
 ·apply VD;intro y e;replace e:=K6 x0 9223372036854775808 ([]) 0 0 y e;cases y with
  |ret b c =>have f:=e;exact Vz (DP Tryz.f107 [.b false,.lp .ret (mr b c)] (AC d<|AL f<|AN))
  |x0 a =>
   have f:=e;apply VC<;>intro g
   ·exact Vz (DP Tryz.f107 [.b false,.lp (.exit 0) (nC a),V5 (a.length:Int),.b true] (AC d<|AL f<|ALn a etS<|AC g<|AN))
   ·exact Vz (DP Tryz.f107 [.b false,.lp (.exit 0) (nC a),V5 (a.length:Int),.b false] (AC d<|AL f<|ALn a etS<|AC g<|AN))
inductive Ao where|x2 (v5:List Y9)
def kJ (v5 v28:List Y9)(a b:Int):US:=stL 45 [(5,.one (V7 1 (v5.map etS))),(28,.one (V7 1 (v28.map etS))),(29,V2 a),(30,V2 b)]
def nh (a:List Y9):US:=stL 45 [(5,.one (V7 1 (a.map etS)))]
abbrev uC:US→Exit→US→Prop:=Round E 125 (an Tryz.f125 1)
def J0 (v5 v28:List Y9)(a b:Int):Ao→Prop| .x2 c=>Loops E 125 (an Tryz.f125 1) (kJ v5 v28 a b) (.exit 2) (nh c)
noncomputable def fS  : List Y9→Nat→(List Y9)→Option Ao|[],i,v5=>some (.x2 v5)|hd::rest,i,v5=>cond (!(hd.toList==ByteArray.empty.toList)) (if(v5.length+([hd]).length)*16≤140737488355328∧v5.length+([hd]).length≤4611686018427387904 then fS rest (i+1) (v5++([hd]))else none) (fS rest (i+1) v5)
theorem JY (v28:List Y9)(rest:List Y9):∀(i:Nat)(v5:List Y9),(v28).drop i=rest→v28.length≤9223372036854775807→Ans (fS rest i v5) (J0 v5 v28 (v28.length:Int) (i:Int)):=by
 induction rest with
 |nil =>intro i v5 a c;have hb:=aK a;unfold fS;exact Vz (VB (show uC (kJ v5 v28 (v28.length:Int) (i:Int)) (.exit 2) (nh v5)from RP [.b false] (AC hb<|AN)) (by intro h;cases h))
 |cons hd rest e =>
  intro i v5 a c;have hb:=aF a;have f:=aG a c;have b:=au a;have g:=aE a;unfold fS;apply VC<;>intro j
  ·apply VE;intro k;exact(e (i+1) (v5++([hd])) b c).mono fun y d=>by have r:uC (kJ v5 v28 (v28.length:Int) (i:Int)) .normal (kJ (v5++([hd])) v28 (v28.length:Int) (inc (i:Int))):=RP [.b true,.row (etS hd),.b true,.rows ((v5++([hd])).map etS)] (AC hb<|AG etS g<|AC j<|AAp etS (fun _=>rfl) k<|AN);rw[f]at r;cases y<;>exact VA r d
  ·exact(e (i+1) v5 b c).mono fun y d=>by have r:uC (kJ v5 v28 (v28.length:Int) (i:Int)) .normal (kJ v5 v28 (v28.length:Int) (inc (i:Int))):=RP [.b true,.row (etS hd),.b false] (AC hb<|AG etS g<|AC j<|AN);rw[f]at r;cases y<;>exact VA r d
inductive An where|ret (v2:List Y9) (v3:Bool)|x0
def jB (v0:Y9)(v4:Int):US:=stL 45 [(0,V4 v0),(4,V2 v4)]
def ml (a:List Y9)(b:Bool):US:=stL 45 [(2,.one (V7 1 (a.map etS))),(3,V3 b)]
def nf (v0:Y9):US:=stL 45 [(0,V4 v0)]
abbrev qa:US→Exit→US→Prop:=Round E 125 (an Tryz.f125 0)
def JZ (v0:Y9)(v4:Int):An→Prop| .ret a b=>Loops E 125 (an Tryz.f125 0) (jB v0 v4) .ret (ml a b)| .x0=>Loops E 125 (an Tryz.f125 0) (jB v0 v4) (.exit 0) (nf v0)
noncomputable def jC  : List Int→Nat→Option An|[],i=>some (.x0)|hd::rest,i=>cond (decide (hd<(32:Int))) (some (.ret ([]) false)) (cond (decide (hd>(126:Int))) (some (.ret ([]) false)) (jC rest (i+1)))
theorem JX (v0:Y9)(rest:List Int):∀(i:Nat) ,(cn v0).drop i=rest→v0.size≤9223372036854775807→Ans (jC rest i) (JZ v0 (i:Int)):=by
 induction rest with
 |nil =>intro i a c;have hb:=uy a;unfold jC;exact Vz (VB (show qa (jB v0 (i:Int)) (.exit 0) (nf v0)from RP [.b false] (AC hb<|AN)) (by intro h;cases h))
 |cons hd rest g =>
  intro i a c;have hb:=sv a;have j:=sA a c;have d:=au a;have b:=wX a;obtain rfl:=wW a;unfold jC;apply VC<;>intro e
  ·exact Vz (VB (show qa (jB v0 (i:Int)) .ret (ml ([]) false)from RP [.b true,.b true] (AC hb<|AC b<|AC e<|AN)) (by intro h;cases h))
  ·apply VC<;>intro f
   ·exact Vz (VB (show qa (jB v0 (i:Int)) .ret (ml ([]) false)from RP [.b true,.b false,.b true] (AC hb<|AC b<|AC e<|AC b<|AC f<|AN)) (by intro h;cases h))
   ·exact(g (i+1) d c).mono fun y k=>by have r:qa (jB v0 (i:Int)) .normal (jB v0 (inc (i:Int))):=RP [.b true,.b false,.b false] (AC hb<|AC b<|AC e<|AC b<|AC f<|AN);rw[j]at r;cases y<;>exact VA r k
noncomputable def rP (b:Y9):Option ((List Y9)×Bool):=
  cond (decide ((b.size:Int)>(600:Int)))
   (some (([]:List Y9),false))
   (if b.size≤9223372036854775807 then(jC (cn b) 0).bind fun y=>match y with
    | .ret c d=>(some (c,d))
    | .x0=>(if b.size<4294967281 then if 1≤(⟨#[32]⟩:Y9).size then if(eS b (⟨#[32]⟩:Y9)).length≤9223372036854775807 then(fS (eS b (⟨#[32]⟩:Y9)) 0 ([])).bind fun y=>match y with
     | .x2 a=>(cond (decide ((a.length:Int)>(10:Int)))
      (some (([]:List Y9),false))
      (some (a,true)))else none else none else none)else none)
theorem Mm (x0:Y9):Ans (rP x0) (fun r=>Does E 125 [V4 x0] [(false,[V7 1 (r.1.map etS)]),VY r.2]):=by
 unfold rP;apply VC<;>intro e
 ·exact Vz (DP Tryz.f125 [.b true] (AC e<|AN))
 ·apply VE;intro g;apply VD;intro y b;replace b:=JX x0 (cn x0) 0 rfl g y b;cases y with
  |ret c d =>have f:=b;exact Vz (DP Tryz.f125 [.b false,.lp .ret (ml c d)] (AC e<|AL f<|AN))
  |x0 =>
   have f:=b;apply VE;intro i;apply VE;intro j;apply VE;intro h;apply VD;intro y b;replace b:=JY (eS x0 (⟨#[32]⟩:Y9)) (eS x0 (⟨#[32]⟩:Y9)) 0 ([]) rfl h y b;cases y with
   |x2 a =>
    have k:=b;apply VC<;>intro l
    ·exact Vz (DP Tryz.f125 [.b false,.lp (.exit 0) (nf x0),.ret [(false,[V7 1 ((eS x0 (⟨#[32]⟩:Y9)).map etS)])],V5 ((eS x0 (⟨#[32]⟩:Y9)).length:Int),.lp (.exit 2) (nh a),V5 (a.length:Int),.b true] (AC e<|AL f<|AD (mh x0 (⟨#[32]⟩:Y9) i j)<|ALn (eS x0 (⟨#[32]⟩:Y9)) etS<|AL k<|ALn a etS<|AC l<|AN))
    ·exact Vz (DP Tryz.f125 [.b false,.lp (.exit 0) (nf x0),.ret [(false,[V7 1 ((eS x0 (⟨#[32]⟩:Y9)).map etS)])],V5 ((eS x0 (⟨#[32]⟩:Y9)).length:Int),.lp (.exit 2) (nh a),V5 (a.length:Int),.b false] (AC e<|AL f<|AD (mh x0 (⟨#[32]⟩:Y9) i j)<|ALn (eS x0 (⟨#[32]⟩:Y9)) etS<|AL k<|ALn a etS<|AC l<|AN))
def okB (b:UInt8):Bool:=decide (32≤b.toNat)&&decide (b.toNat≤126)
theorem Ri {b:UInt8}(h:b.toNat<32):okB b=false:=by unfold okB;rw[Wj (by omega)];rfl
theorem Rg {b:UInt8}(h:126<b.toNat):okB b=false:=by unfold okB;rw[Wj (by omega:¬b.toNat≤126),XL]
theorem Rh {b:UInt8}(h:¬b.toNat<32)(a:¬ 126<b.toNat):okB b=true:=by unfold okB;rw[Wi (by omega),Wi (by omega)];rfl
def ax (x:Y9):Bool := !(x.toList==ByteArray.empty.toList)
noncomputable def aS (s:Y9):List Y9×Bool :=if 600<s.size then([],false)else if(tx s).all okB=true then(if 10<(((cd 32 (tx s)).map ofTx).filter ax).length then([],false)else(((cd 32 (tx s)).map ofTx).filter ax,true))else([],false)
theorem JJ (l:List UInt8):ax (ofTx l)= !l.isEmpty:=by unfold ax;rw[hJ];have:tx ByteArray.empty=[]:=rfl;rw[this,xz];cases l<;>rfl
theorem EX (s:Y9)(c:UInt8):eS s ⟨#[c]⟩=(cd c (tx s)).map ofTx:=Nz s c
theorem t8 (s:Y9):cn s=(tx s).map fun b=>(b.toNat:Int):=rfl
theorem Jl {s:Y9}{i:Nat}{b:UInt8}(h:(tx s)[i]?=some b):iP s (i:Int)=(b.toNat:Int):=by
 have hi:i<s.size:=by
  rw[dQ];rcases Wl i (tx s).length with g|g
  ·exact g
  ·rw[Wh g]at h;cases h
 have:=wG s i hi;rw[t8,Wr,h]at this;exact(X0 this).symm
theorem Rn:∀(l:List UInt8)(i:Nat),jC (l.map fun b=>(b.toNat:Int)) i=some (if l.all okB=true then .x0 else .ret [] false)
 |[],i=>rfl
 |b::l,i=>by
  rw[Wv];unfold jC;rw[Rn l (i+1),Xh];by_cases h:b.toNat<32
  ·rw[Wi (by omega),Ri h];rfl
  ·rw[Wj (by omega),Wu];by_cases a:126<b.toNat
   ·rw[Wi (by omega),Rg a];rfl
   ·rw[Wj (by omega),Rh h a];rfl
theorem KJ:∀(l:List Y9)(i:Nat)(v:List Y9),v.length+l.length≤4000000→fS l i v=some (.x2 (v++l.filter ax))
 |[],i,v,_=>by unfold fS;simp
 |x::l,i,v,h=>by
  simp only[WL]at h;unfold fS;have e:(!(x.toList==ByteArray.empty.toList))=ax x:=rfl;rw[e];cases q:ax x with
  |true =>rw[Wn,Wa (by simp;omega),KJ l (i+1) _ (by simp;omega),Xy,q];simp
  |false =>rw[Wu,KJ l (i+1) v (by omega),Xy,q];simp
theorem Ro (s:Y9):rP s=some (aS s):=by
 unfold rP aS;by_cases h:600<s.size
 ·rw[Wi (by omega),Wa h];rfl
 ·have a:=CR 32 (tx s);rw[←dQ]at a;rw[Wj (by omega),Wo h,Wu,Wa (by omega),t8,Rn];by_cases q:(tx s).all okB=true
  ·rw[Wa q,Wa q,V9];simp only;rw[Wa (by omega),Wa (by decide),EX,Wa (by simp;omega),KJ _ _ _ (by simp;omega),V9];simp only[WI];by_cases r:10<(((cd 32 (tx s)).map ofTx).filter ax).length
   ·rw[Wi (by omega),Wa r];rfl
   ·rw[Wj (by omega),Wo r];rfl
  ·rw[Wo q,Wo q];rfl
theorem JK {l:List UInt8}{i:Nat}(h:i<l.length):∃b r,l.drop i=b::r∧l[i]?=some b∧l.drop (i+1)=r:=by refine⟨l[i],l.drop (i+1),Xk h,Wg h,rfl⟩
theorem Rq (s:Y9)(hs:s.size≤2000000):∀(m i a:Nat)(v:List Y9)(n:Nat),i+m=(tx s).length→m+1<n→a≤i→v.length+m≤2000000 →
  dG s n v (a:Int) (i:Int)=some (if((tx s).drop i).all okB=true then .x0 (v++((jN (seg (tx s) a i) (cd 32 ((tx s).drop i))).map ofTx).filter ax)else .ret [] false)
 |m,i,a,v,n,hi,A,f,hv=>by
  obtain⟨n,rfl⟩:∃k,n=k+2:=⟨n-2,by omega⟩
  have u:=dQ s;unfold dG;rw[Wi (by omega:(i:Int)≤(s.size:Int)),Wn];have c:inc (i:Int)=((i+1:Nat):Int):=by rw[mN _ (by omega) (by omega)];omega
  cases m with
  |zero =>
   have hd:(tx s).drop i=[]:=WV (by omega);have stop:∀w b,dG s (n+1) w b ((i+1:Nat):Int)=some (.x0 w):=fun w b=>by unfold dG;rw[Wj (by omega)];rfl
   have hc:jN (seg (tx s) a i) (cd 32 ([]:List UInt8))=[seg (tx s) a i]:=by simp[cd,jN]
   have hf:([seg (tx s) a i].map ofTx).filter ax=if a=i then []else [s.extract a i]:=by
    rw[Wv,WM,Xy,JJ,N8 f (by omega),ol];by_cases q:a=i
    ·rw[Wa q,Wi q];rfl
    ·rw[Wo q,Wj q];rfl
   rw[Wj (by omega:¬(i:Int)<(s.size:Int)),Wu,c,hd,hc,hf,List.all_nil,Wa rfl];by_cases q:a=i
   ·rw[Wj (by omega),Wu,stop,Wa q,WG]
   ·rw[Wi (by omega),Wn,Wa (by omega),Wa (by simp;omega),stop,Wo q];rfl
  |succ m =>
   obtain⟨b,r,hd,j,x⟩:=JK (l:=tx s) (i:=i) (by omega);have hb:=Jl j;have d:=fun o p (y:o≤i+1) (z:p.length+m≤2000000)=>Rq s hs m (i+1) o p (n+1) (by omega) (by omega) y z
   rw[x]at d;rw[Wi (by omega:(i:Int)<(s.size:Int)),Wn,Wa (by omega),hb,c,hd,Xh];have bl:=b.toNat_lt;by_cases h:b.toNat<32
   ·rw[Wi (by omega:((b.toNat:Int)<32)),Wn,Ri h];rfl
   ·rw[Wj (by omega:¬((b.toNat:Int)<32)),Wu];by_cases t:126<b.toNat
    ·rw[Wi (by omega:((b.toNat:Int)>126)),Wn,Rg t];rfl
    ·rw[Wj (by omega:¬((b.toNat:Int)>126)),Wu,Rh h t,WJ];by_cases q:b=32
     ·subst q;have e:(((32:UInt8).toNat:Int) != 32)=false:=by decide
      rw[e,Wu,uv];have g:jN (seg (tx s) a i) ([]::cd 32 r)=seg (tx s) a i::cd 32 r:=by simp[jN]
      rw[g,Wv,Xy,JJ,N8 f (by omega)];have hz:jN (seg (tx s) (i+1) (i+1)) (cd 32 r)=cd 32 r:=by rw[u6];exact xW _ (jQ _ _)
      by_cases q:a=i
      ·have:=d (i+1) v (by omega) (by omega);rw[hz]at this;rw[Wj (by omega),Wu,this,Wi q];rfl
      ·have:=d (i+1) (v++[s.extract a i]) (by omega) (by simp;omega);rw[hz]at this;rw[Wi (by omega),Wn,Wa (by omega),Wa (by simp;omega)];rw[show((a:Int).toNat)=a by omega,show((i:Int).toNat)=i by omega,this,Wj q,ol];simp
     ·have e:((b.toNat:Int) != 32)=true:=by rw[Y7];intro h;exact q (Y5.1 (by show b.toNat=32;omega))
      rw[e,Wn,d a v (by omega) (by omega),pp q,GX _ _ _ (jQ _ _), ←Ls f j]
theorem Rp (s:Y9):r7 s=some (aS s):=by
 unfold r7 aS;by_cases h:600<s.size
 ·rw[Wi (by omega),Wa h];rfl
 ·have hz:jN (seg (tx s) 0 0) (cd 32 (tx s))=cd 32 (tx s):=by rw[u6];exact xW _ (jQ _ _)
  have e:=Rq s (by omega) (tx s).length 0 0 [] 9223372036854775808 (by omega) (by rw[←dQ];omega) (by omega) (by rw[←dQ];simp;omega);rw[WK,hz,WI]at e;rw[Wj (by omega),Wo h,Wu];refine(Wy (Option.bind · _) e).trans ?_;by_cases q:(tx s).all okB=true
  ·rw[Wa q,Wa q,V9];simp only;by_cases r:10<(((cd 32 (tx s)).map ofTx).filter ax).length
   ·rw[Wi (by omega),Wa r];rfl
   ·rw[Wj (by omega),Wo r];rfl
  ·rw[Wo q,Wo q];rfl
theorem wx {s p:Y9}(h:p∈(aS s).1):p.size≤600:=by
 unfold aS at h;split at h
 ·cases h
 ·rename_i b;split at h
  ·split at h
   ·cases h
   ·obtain⟨x,a,rfl⟩:=Wx.1 (XN.1 h).1;have:=CS _ _ x a;rw[sC];rw[←dQ]at this;omega
  ·cases h
theorem LT (a:Y9):Does E 107 [V4 a] [(false,[V7 1 (((aS a).1).map etS)]),VY ((aS a).2)]:=by exact Nb a _ (Rp a)
theorem oz (a:Y9){c:Bool}(b:(aS a).2=c):Does E 107 [V4 a] [(false,[V7 1 (((aS a).1).map etS)]),VY c]:=by rw[←b];exact LT a
theorem LO (a:Y9):Does E 125 [V4 a] [(false,[V7 1 (((aS a).1).map etS)]),VY ((aS a).2)]:=by exact Mm a _ (Ro a)
theorem oy (a:Y9){c:Bool}(b:(aS a).2=c):Does E 125 [V4 a] [(false,[V7 1 (((aS a).1).map etS)]),VY c]:=by rw[←b];exact LO a
inductive uV where|ret (v2:Int) (v3:Bool)|x0 (v4:Int)
def fA (v0:Y9)(v4 v5:Int):US:=stL 42 [(0,V4 v0),(4,V2 v4),(5,V2 v5)]
def jM (a:Int)(b:Bool):US:=stL 42 [(2,V2 a),(3,V3 b)]
def ie (v0:Y9)(a:Int):US:=stL 42 [(0,V4 v0),(4,V2 a)]
abbrev lA:US→Exit→US→Prop:=Round E 135 (an Tryz.f135 0)
def Db (v0:Y9)(v4 v5:Int):uV→Prop| .ret a b=>Loops E 135 (an Tryz.f135 0) (fA v0 v4 v5) .ret (jM a b)| .x0 c=>Loops E 135 (an Tryz.f135 0) (fA v0 v4 v5) (.exit 0) (ie v0 c)
noncomputable def fB (v0:Y9):List Int→Nat→Int→Option uV|[],i,v4=>some (.x0 v4)|hd::rest,i,v4=>cond (decide (hd<(48:Int))) (some (.ret 0 false)) (cond (decide (hd>(57:Int))) (some (.ret 0 false)) (fB v0 rest (i+1) (IntKind.wrap .i64 ((IntKind.wrap .i64 ((IntKind.wrap .i64 ((10:Int)*v4))+(IntKind.wrap .i64 hd)))-(48:Int)))))
theorem Da (v0:Y9)(rest:List Int):∀(i:Nat)(v4:Int),(cn v0).drop i=rest→v0.size≤9223372036854775807→Ans (fB v0 rest i v4) (Db v0 v4 (i:Int)):=by
 induction rest with
 |nil =>intro i v4 a c;have hb:=uy a;unfold fB;exact Vz (VB (show lA (fA v0 v4 (i:Int)) (.exit 0) (ie v0 v4)from RP [.b false] (AC hb<|AN)) (by intro h;cases h))
 |cons hd rest g =>
  intro i v4 a c;have hb:=sv a;have j:=sA a c;have d:=au a;have b:=wX a;obtain rfl:=wW a;unfold fB;apply VC<;>intro e
  ·exact Vz (VB (show lA (fA v0 v4 (i:Int)) .ret (jM 0 false)from RP [.b true,.b true] (AC hb<|AC b<|AC e<|AN)) (by intro h;cases h))
  ·apply VC<;>intro f
   ·exact Vz (VB (show lA (fA v0 v4 (i:Int)) .ret (jM 0 false)from RP [.b true,.b false,.b true] (AC hb<|AC b<|AC e<|AC b<|AC f<|AN)) (by intro h;cases h))
   ·exact(g (i+1) (IntKind.wrap .i64 ((IntKind.wrap .i64 ((IntKind.wrap .i64 ((10:Int)*v4))+(IntKind.wrap .i64 (iP v0 (i:Int)))))-(48:Int))) d c).mono fun y k=>by have r:lA (fA v0 v4 (i:Int)) .normal (fA v0 (IntKind.wrap .i64 ((IntKind.wrap .i64 ((IntKind.wrap .i64 ((10:Int)*v4))+(IntKind.wrap .i64 (iP v0 (i:Int)))))-(48:Int))) (inc (i:Int))):=RP [.b true,.b false,.b false] (AC hb<|AC b<|AC e<|AC b<|AC f<|AC b<|AN);rw[j]at r;cases y<;>exact VA r k
noncomputable def ms (b:Y9):Option (Int×Bool):=
  cond (decide ((b.size:Int)>(10:Int)))
   (some (0,false))
   (if b.size≤9223372036854775807 then(fB b (cn b) 0 0).bind fun y=>match y with
    | .ret c d=>(some (c,d))
    | .x0 a=>(cond (decide (a>(1000000000:Int)))
     (some (0,false))
     (if -9223372036854775808≤a∧a≤9223372036854775807 then cond (!((bE a).toList==b.toList))
      (some (0,false))
      (some (a,true))else none))else none)
theorem EI (x0:Y9):Ans (ms x0) (fun r=>Does E 135 [V4 x0] [VX r.1,VY r.2]):=by
 unfold ms;apply VC<;>intro b
 ·exact Vz (DP Tryz.f135 [.b true] (AC b<|AN))
 ·apply VE;intro g;apply VD;intro y f;replace f:=Da x0 (cn x0) 0 0 rfl g y f;cases y with
  |ret c d =>have e:=f;exact Vz (DP Tryz.f135 [.b false,.lp .ret (jM c d)] (AC b<|AL e<|AN))
  |x0 a =>
   have e:=f;apply VC<;>intro h
   ·exact Vz (DP Tryz.f135 [.b false,.lp (.exit 0) (ie x0 a),.b true] (AC b<|AL e<|AC h<|AN))
   ·apply VE;intro i;apply VC<;>intro j
    ·exact Vz (DP Tryz.f135 [.b false,.lp (.exit 0) (ie x0 a),.b false,.ret [VZ (bE a)],.b true] (AC b<|AL e<|AC h<|AD (rK a i)<|AC j<|AN))
    ·exact Vz (DP Tryz.f135 [.b false,.lp (.exit 0) (ie x0 a),.b false,.ret [VZ (bE a)],.b false] (AC b<|AL e<|AC h<|AD (rK a i)<|AC j<|AN))
inductive uD where|ret (v2:Int) (v3:Bool)|x0 (v4:Int)
def fw (v0:Y9)(v4 v5:Int):US:=stL 47 [(0,V4 v0),(4,V2 v4),(5,V2 v5)]
def jK (a:Int)(b:Bool):US:=stL 47 [(2,V2 a),(3,V3 b)]
def hU (v0:Y9)(a:Int):US:=stL 47 [(0,V4 v0),(4,V2 a)]
abbrev lm:US→Exit→US→Prop:=Round E 159 (an Tryz.f159 0)
def C0 (v0:Y9)(v4 v5:Int):uD→Prop| .ret a b=>Loops E 159 (an Tryz.f159 0) (fw v0 v4 v5) .ret (jK a b)| .x0 c=>Loops E 159 (an Tryz.f159 0) (fw v0 v4 v5) (.exit 0) (hU v0 c)
noncomputable def fx (v0:Y9):List Int→Nat→Int→Option uD|[],i,v4=>some (.x0 v4)|hd::rest,i,v4=>cond (decide (hd<(48:Int))) (some (.ret 0 false)) (cond (decide (hd>(57:Int))) (some (.ret 0 false)) (fx v0 rest (i+1) (IntKind.wrap .i64 ((IntKind.wrap .i64 (v4*(10:Int)))+(IntKind.wrap .i64 (IntKind.wrap .u8 (hd-(48:Int))))))))
theorem CZ (v0:Y9)(rest:List Int):∀(i:Nat)(v4:Int),(cn v0).drop i=rest→v0.size≤9223372036854775807→Ans (fx v0 rest i v4) (C0 v0 v4 (i:Int)):=by
 induction rest with
 |nil =>intro i v4 a c;have hb:=uy a;unfold fx;exact Vz (VB (show lm (fw v0 v4 (i:Int)) (.exit 0) (hU v0 v4)from RP [.b false] (AC hb<|AN)) (by intro h;cases h))
 |cons hd rest g =>
  intro i v4 a c;have hb:=sv a;have j:=sA a c;have d:=au a;have b:=wX a;obtain rfl:=wW a;unfold fx;apply VC<;>intro e
  ·exact Vz (VB (show lm (fw v0 v4 (i:Int)) .ret (jK 0 false)from RP [.b true,.b true] (AC hb<|AC b<|AC e<|AN)) (by intro h;cases h))
  ·apply VC<;>intro f
   ·exact Vz (VB (show lm (fw v0 v4 (i:Int)) .ret (jK 0 false)from RP [.b true,.b false,.b true] (AC hb<|AC b<|AC e<|AC b<|AC f<|AN)) (by intro h;cases h))
   ·exact(g (i+1) (IntKind.wrap .i64 ((IntKind.wrap .i64 (v4*(10:Int)))+(IntKind.wrap .i64 (IntKind.wrap .u8 ((iP v0 (i:Int))-(48:Int)))))) d c).mono fun y k=>by have r:lm (fw v0 v4 (i:Int)) .normal (fw v0 (IntKind.wrap .i64 ((IntKind.wrap .i64 (v4*(10:Int)))+(IntKind.wrap .i64 (IntKind.wrap .u8 ((iP v0 (i:Int))-(48:Int)))))) (inc (i:Int))):=RP [.b true,.b false,.b false] (AC hb<|AC b<|AC e<|AC b<|AC f<|AC b<|AN);rw[j]at r;cases y<;>exact VA r k
noncomputable def mm (b:Y9):Option (Int×Bool):=
  cond ((b.size:Int)==(0:Int))
   (some (0,false))
   (cond (decide ((b.size:Int)>(10:Int)))
    (some (0,false))
    (if b.size≤9223372036854775807 then(fx b (cn b) 0 0).bind fun y=>match y with
     | .ret c d=>(some (c,d))
     | .x0 a=>(cond (decide (a>(1000000000:Int)))
      (some (0,false))
      (if -9223372036854775808≤a∧a≤9223372036854775807 then cond (!((bE a).toList==b.toList))
       (some (0,false))
       (some (a,true))else none))else none))
theorem Ea (x0:Y9):Ans (mm x0) (fun r=>Does E 159 [V4 x0] [VX r.1,VY r.2]):=by
 unfold mm;apply VC<;>intro b
 ·exact Vz (DP Tryz.f159 [.b true] (AC b<|AN))
 ·apply VC<;>intro c
  ·exact Vz (DP Tryz.f159 [.b false,.b true] (AC b<|AC c<|AN))
  ·apply VE;intro h;apply VD;intro y g;replace g:=CZ x0 (cn x0) 0 0 rfl h y g;cases y with
   |ret d e =>have f:=g;exact Vz (DP Tryz.f159 [.b false,.b false,.lp .ret (jK d e)] (AC b<|AC c<|AL f<|AN))
   |x0 a =>
    have f:=g;apply VC<;>intro i
    ·exact Vz (DP Tryz.f159 [.b false,.b false,.lp (.exit 0) (hU x0 a),.b true] (AC b<|AC c<|AL f<|AC i<|AN))
    ·apply VE;intro j;apply VC<;>intro k
     ·exact Vz (DP Tryz.f159 [.b false,.b false,.lp (.exit 0) (hU x0 a),.b false,.ret [VZ (bE a)],.b true] (AC b<|AC c<|AL f<|AC i<|AD (vR a j)<|AC k<|AN))
     ·exact Vz (DP Tryz.f159 [.b false,.b false,.lp (.exit 0) (hU x0 a),.b false,.ret [VZ (bE a)],.b false] (AC b<|AC c<|AL f<|AC i<|AD (vR a j)<|AC k<|AN))
def nz:List UInt8→Int→Option Int|[],v=>some v|b::l,v=>if 48≤b.toNat∧b.toNat≤57 then nz l (10*v+((b.toNat:Int)-48))else none
noncomputable def ac (s:Y9):Int×Bool :=
 if 10<s.size then(0,false)else match nz (tx s) 0 with
  |none=>(0,false)
  |some n=>if 1000000000<n then(0,false)else if tx (bE n)=tx s then(n,true)else(0,false)
theorem Cq:∀(l:List UInt8)(v:Int)(k:Nat)(r:Int),0≤v→v<10 ^ k→nz l v=some r→0≤r∧r<10 ^ (k+l.length)
 |[],v,k,r,a,c,h=>by cases h;exact⟨a,c⟩
 |b::l,v,k,r,a,c,h=>by
  unfold nz at h;split at h
  ·rename_i hb;have:=Cq l (10*v+((b.toNat:Int)-48)) (k+1) r (by omega) (by rw[Int.pow_succ];omega) h;rw[WL,show k+(l.length+1)=k+1+l.length by omega];exact this
  ·cases h
theorem KS {k n:Nat}(h:k≤n):(10:Int) ^ k≤10 ^ n:=by
 have:=Nat.pow_le_pow_right (n:=10) (by omega) h;have e:∀m:Nat,10 ^ m=((10 ^ m:Nat):Int):=fun m=>by simp
 rw[e,e];omega
theorem KU (s:Y9):∀(l:List UInt8)(i:Nat)(v:Int)(k:Nat),0≤v→v<10 ^ k→k+l.length≤10 →
  fB s (l.map fun b=>(b.toNat:Int)) i v=some (match nz l v with|some r=>.x0 r|none=>.ret 0 false) ∧
  fx s (l.map fun b=>(b.toNat:Int)) i v=some (match nz l v with|some r=>.x0 r|none=>.ret 0 false)
 |[],i,v,k,_,_,_=>⟨rfl,rfl⟩
 |b::l,i,v,k,f,g,a=>by
  have j:=KS (show k≤10 by omega);have c:(10:Int) ^ 10=10000000000:=by decide
  rw[Wv];unfold fB fx nz;have bl:=b.toNat_lt;by_cases h:b.toNat<48
  ·rw[Wi (by omega:((b.toNat:Int)<48)),Wo (by omega)];exact⟨rfl,rfl⟩
  ·rw[Wj (by omega:¬((b.toNat:Int)<48)),Wu,Wu];by_cases m:57<b.toNat
   ·rw[Wi (by omega:((b.toNat:Int)>57)),Wo (by omega)];exact⟨rfl,rfl⟩
   ·rw[Wj (by omega:¬((b.toNat:Int)>57)),Wa (by omega),Wu,Wu];have d:IntKind.wrap .i64 (IntKind.wrap .i64 (IntKind.wrap .i64 (10*v)+IntKind.wrap .i64 (b.toNat:Int))-48)=10*v+((b.toNat:Int)-48):=by rw[du (10*v) (by omega) (by omega),du (b.toNat:Int) (by omega) (by omega),du (10*v+(b.toNat:Int)) (by omega) (by omega),du _ (by omega) (by omega)];omega
    have e:IntKind.wrap .i64 (IntKind.wrap .i64 (v*10)+IntKind.wrap .i64 (IntKind.wrap .u8 ((b.toNat:Int)-48)))=10*v+((b.toNat:Int)-48):=by rw[Ta (by omega) (by omega),du (v*10) (by omega) (by omega),du ((b.toNat:Int)-48) (by omega) (by omega),du _ (by omega) (by omega)];omega
    rw[d,e];simp only[WL]at a;exact KU s l (i+1) _ (k+1) (by omega) (by rw[Int.pow_succ];omega) (by omega)
theorem wz {s:Y9}(h:¬ 10<s.size){r:Int}(a:nz (tx s) 0=some r):0≤r∧r<10000000000:=by
 have:=Cq (tx s) 0 0 r (by omega) (by decide) a;have c:=KS (show 0+(tx s).length≤10 by rw[←dQ];omega);have b:(10:Int) ^ 10=10000000000:=by decide
 omega
theorem Rw (s:Y9):ms s=some (ac s):=by
 unfold ms ac;by_cases h:10<s.size
 ·rw[Wi (by omega),Wa h];rfl
 ·obtain⟨e, -⟩:=KU s (tx s) 0 0 0 (by omega) (by decide) (by rw[←dQ];omega);rw[Wj (by omega),Wo h,Wu,Wa (by omega),t8,e];cases q:nz (tx s) 0 with
  |none=>rfl
  |some n =>
   obtain⟨a,b⟩:=wz h q;simp only[V9];by_cases z:1000000000<n
   ·rw[Wi (by omega),Wa z];rfl
   ·rw[Wj (by omega),Wo z,Wu,Wa (by omega),hJ];by_cases y:tx (bE n)=tx s
    ·rw[Wi y,Wa y];rfl
    ·rw[Wj y,Wo y];rfl
theorem Rv (s:Y9):mm s=some (ac s):=by
 unfold mm ac;by_cases hz:s.size=0
 ·have b:tx s=[]:=List.eq_nil_of_length_eq_zero (by rw[←dQ];exact hz);have a:((s.size:Int)==0)=true:=by rw[hz];rfl
  rw[a,Wn,Wo (by omega),b];unfold nz;simp only;have:¬tx (bE 0)=[]:=by unfold bE Lib.itoa;rw[Wo (by omega),Lib.decDigits,dif_pos (by simp)];simp[tx]
  rw[Wo (by omega),Wo this]
 have a:((s.size:Int)==0)=false:=by rw[W5];omega
 rw[a,Wu];by_cases h:10<s.size
 ·rw[Wi (by omega),Wa h];rfl
 ·obtain⟨-,e⟩:=KU s (tx s) 0 0 0 (by omega) (by decide) (by rw[←dQ];omega);rw[Wj (by omega),Wo h,Wu,Wa (by omega),t8,e];cases q:nz (tx s) 0 with
  |none=>rfl
  |some n =>
   obtain⟨c,d⟩:=wz h q;simp only[V9];by_cases z:1000000000<n
   ·rw[Wi (by omega),Wa z];rfl
   ·rw[Wj (by omega),Wo z,Wu,Wa (by omega),hJ];by_cases y:tx (bE n)=tx s
    ·rw[Wi y,Wa y];rfl
    ·rw[Wj y,Wo y];rfl
theorem PI (s:Y9):0≤(ac s).1∧(ac s).1≤1000000000:=by
 unfold ac;split
 ·exact⟨Xb _,by decide⟩
 ·rename_i h;split
  ·exact⟨Xb _,by decide⟩
  ·rename_i n q;obtain⟨a,b⟩:=wz h q;split
   ·exact⟨Xb _,by decide⟩
   ·split
    ·exact⟨a,by show n≤_;omega⟩
    ·exact⟨Xb _,by decide⟩
theorem Hc:∀{l:List UInt8}{b:UInt8}(v:Int),b∈l→¬(48≤b.toNat∧b.toNat≤57)→nz l v=none
 |x::l,b,v,h,hb=>by
  unfold nz;rcases WE.1 h with rfl|h
  ·rw[Wo hb]
  ·split
   ·exact Hc _ h hb
   ·rfl
theorem Cp {s:Y9}{b:UInt8}(h:b∈tx s)(hb:¬(48≤b.toNat∧b.toNat≤57)):ac s=(0,false):=by unfold ac;rw[Hc 0 h hb];split<;>rfl
theorem pH (a:Y9):Does E 135 [V4 a] [VX ((ac a).1),VY ((ac a).2)]:=by exact EI a _ (Rw a)
theorem aA (a:Y9){c:Bool}(b:(ac a).2=c):Does E 135 [V4 a] [VX ((ac a).1),VY c]:=by rw[←b];exact pH a
theorem vh (a:Y9):Does E 159 [V4 a] [VX ((ac a).1),VY ((ac a).2)]:=by exact Ea a _ (Rv a)
theorem bB (a:Y9){c:Bool}(b:(ac a).2=c):Does E 159 [V4 a] [VX ((ac a).1),VY c]:=by rw[←b];exact vh a
inductive zi where|x0 (v5:List Y9)
def gA (v0:Y9)(v1:Int)(v5:List Y9)(v6 v7:Int):US:=stL 36 [(0,V4 v0),(1,.one (tY v1)),(5,.one (V7 1 (v5.map etS))),(6,V2 v6),(7,V2 v7)]
def qM (a:List Y9):US:=stL 36 [(5,.one (V7 1 (a.map etS)))]
abbrev oS:US→Exit→US→Prop:=Round E 120 (an Tryz.f120 0)
def Iq (v0:Y9)(v1:Int)(v5:List Y9)(v6 v7:Int):zi→Prop| .x0 a=>Loops E 120 (an Tryz.f120 0) (gA v0 v1 v5 v6 v7) (.exit 0) (qM a)
noncomputable def eG (v0:Y9)(v1:Int):Nat→(List Y9)→Int→Int→Option zi| 0,_,_,_=>none|n+1,v5,v6,v7=>cond (decide (v7≤(v0.size:Int))) (cond (v7==(v0.size:Int)) (if 0≤v6∧v6≤v7∧v7≤(v0.size:Int)then if(v5.length+([v0.extract v6.toNat v7.toNat]).length)*16≤140737488355328∧v5.length+([v0.extract v6.toNat v7.toNat]).length≤4611686018427387904 then eG v0 v1 n (v5++([v0.extract v6.toNat v7.toNat])) (inc v7) (inc v7)else none else none) (if 0≤v7∧v7<(v0.size:Int)then cond ((iP v0 v7)==v1) (if 0≤v6∧v6≤v7∧v7≤(v0.size:Int)then if(v5.length+([v0.extract v6.toNat v7.toNat]).length)*16≤140737488355328∧v5.length+([v0.extract v6.toNat v7.toNat]).length≤4611686018427387904 then eG v0 v1 n (v5++([v0.extract v6.toNat v7.toNat])) (inc v7) (inc v7)else none else none) (eG v0 v1 n v5 v6 (inc v7))else none)) (some (.x0 v5))
theorem Ip (v0:Y9)(v1:Int)(n:Nat):∀(v5:List Y9)(v6 v7:Int),Ans (eG v0 v1 n v5 v6 v7) (Iq v0 v1 v5 v6 v7):=by
 induction n with
 |zero=>intros;exact Ans.none
 |succ n e =>
  intro v5 v6 v7;unfold eG;apply VC<;>intro b
  ·apply VC<;>intro f
   ·apply VE;intro c;apply VE;intro d;have r:oS (gA v0 v1 v5 v6 v7) .normal (gA v0 v1 (v5++([v0.extract v6.toNat v7.toNat])) (inc v7) (inc v7)):=RP [.b true,.b true,.rows ((v5++([v0.extract v6.toNat v7.toNat])).map etS)] (AC b<|AC f<|AC c<|AAp etS (fun _=>rfl) d<|AN);exact(e (v5++([v0.extract v6.toNat v7.toNat])) (inc v7) (inc v7)).mono fun y a=>by cases y<;>exact VA r a
   ·apply VE;intro c;apply VC<;>intro d
    ·apply VE;intro g;apply VE;intro i;have r:oS (gA v0 v1 v5 v6 v7) .normal (gA v0 v1 (v5++([v0.extract v6.toNat v7.toNat])) (inc v7) (inc v7)):=RP [.b true,.b false,.b true,.rows ((v5++([v0.extract v6.toNat v7.toNat])).map etS)] (AC b<|AC f<|AC c<|AC d<|AC g<|AAp etS (fun _=>rfl) i<|AN);exact(e (v5++([v0.extract v6.toNat v7.toNat])) (inc v7) (inc v7)).mono fun y a=>by cases y<;>exact VA r a
    ·have r:oS (gA v0 v1 v5 v6 v7) .normal (gA v0 v1 v5 v6 (inc v7)):=RP [.b true,.b false,.b false] (AC b<|AC f<|AC c<|AC d<|AN);exact(e v5 v6 (inc v7)).mono fun y a=>by cases y<;>exact VA r a
  ·exact Vz (VB (show oS (gA v0 v1 v5 v6 v7) (.exit 0) (qM v5)from RP [.b false] (AC b<|AN)) (by intro h;cases h))
noncomputable def qN (b:Y9)(c:Int):Option ((List Y9)):=
  (eG b c 9223372036854775808 ([]) 0 0).bind fun y=>match y with
   | .x0 a=>(some (a))
theorem Lg (x0:Y9)(b:Int):Ans (qN x0 b) (fun r=>Does E 120 [V4 x0,.one (tY b)] [(false,[V7 1 (r.map etS)])]):=by
 unfold qN;apply VD;intro y c;replace c:=Ip x0 b 9223372036854775808 ([]) 0 0 y c;cases y with
 |x0 a =>have d:=c;exact Vz (DP Tryz.f120 [.lp (.exit 0) (qM a)] (AL d<|AN))
noncomputable def am (s:Y9)(c:Int):List Y9:=(cd (UInt8.ofNat c.toNat) (tx s)).map ofTx
theorem RK (s:Y9)(c:UInt8)(hs:s.size≤2000000):∀(m i a:Nat)(v:List Y9)(n:Nat),i+m=(tx s).length→m+1<n→a≤i→v.length+m≤2000000 →
  eG s (c.toNat:Int) n v (a:Int) (i:Int)=some (.x0 (v++(jN (seg (tx s) a i) (cd c ((tx s).drop i))).map ofTx))
 |m,i,a,v,n,hi,A,t,hv=>by
  obtain⟨n,rfl⟩:∃k,n=k+2:=⟨n-2,by omega⟩
  have u:=dQ s;unfold eG;rw[Wi (by omega:(i:Int)≤(s.size:Int)),Wn];have d:inc (i:Int)=((i+1:Nat):Int):=by rw[mN _ (by omega) (by omega)];omega
  cases m with
  |zero =>
   have hd:(tx s).drop i=[]:=WV (by omega);have stop:∀w b,eG s (c.toNat:Int) (n+1) w b ((i+1:Nat):Int)=some (.x0 w):=fun w b=>by unfold eG;rw[Wj (by omega)];rfl
   have hc:jN (seg (tx s) a i) (cd c ([]:List UInt8))=[seg (tx s) a i]:=by simp[cd,jN]
   have e:((i:Int)==(s.size:Int))=true:=by rw[XW];omega
   rw[e,Wn,Wa (by omega),Wa (by simp;omega),d,stop,hd,hc,show((a:Int).toNat)=a by omega,show((i:Int).toNat)=i by omega,ol];rfl
  |succ m =>
   obtain⟨b,r,hd,j,x⟩:=JK (l:=tx s) (i:=i) (by omega);have hb:=Jl j;have f:=fun o p (y:o≤i+1) (z:p.length+m≤2000000)=>RK s c hs m (i+1) o p (n+1) (by omega) (by omega) y z
   rw[x]at f;have e:((i:Int)==(s.size:Int))=false:=by rw[W5];omega
   rw[e,Wu,Wa (by omega),hb,d,hd];by_cases q:b=c
   ·subst q;have g:jN (seg (tx s) a i) ([]::cd b r)=seg (tx s) a i::cd b r:=by simp[jN]
    have hz:jN (seg (tx s) (i+1) (i+1)) (cd b r)=cd b r:=by rw[u6];exact xW _ (jQ _ _)
    have:=f (i+1) (v++[s.extract a i]) (by omega) (by simp;omega);rw[hz]at this;rw[beq_self_eq_true,Wn,Wa (by omega),Wa (by simp;omega),uv,g];rw[show((a:Int).toNat)=a by omega,show((i:Int).toNat)=i by omega,this,ol];simp
   ·have e:((b.toNat:Int)==(c.toNat:Int))=false:=by rw[W5];intro h;exact q (Y5.1 (by omega))
    rw[e,Wu,f a v (by omega) (by omega),pp q,GX _ _ _ (jQ _ _), ←Ls t j]
theorem Pg (s:Y9)(c:Int)(hs:s.size≤2000000)(hc:0≤c∧c<256):qN s c=some (am s c):=by
 have hz:jN (seg (tx s) 0 0) (cd (UInt8.ofNat c.toNat) (tx s))=cd (UInt8.ofNat c.toNat) (tx s):=by rw[u6];exact xW _ (jQ _ _)
 have e:=RK s (UInt8.ofNat c.toNat) hs (tx s).length 0 0 [] 9223372036854775808 (by omega) (by rw[←dQ];omega) (by omega) (by rw[←dQ];simp;omega);have a:(((UInt8.ofNat c.toNat).toNat:Nat):Int)=c:=by rw[UInt8.toNat_ofNat'];omega
 rw[WK,hz,WI,a]at e;unfold qN am;refine(Wy (Option.bind · _) e).trans ?_;rfl
theorem bg (b:Y9)(a:Int)(h:b.size≤2000000)(hc:0≤a∧a<256):Does E 120 [V4 b,.one (tY a)] [(false,[V7 1 ((am b a).map etS)])]:=by exact Lg b a _ (Pg b a h hc)
noncomputable def mV (b:Y9)(c d:Int):Option (Int×Int×Int×Bool):=cond (b.toList==(⟨#[42]⟩:Y9).toList) (some (c,d,1,true)) (cond (decide ((b.size:Int)>(2:Int))) (if 0≤(0:Int)∧(0:Int)≤(2:Int)∧(2:Int)≤(b.size:Int)then cond ((b.extract (0:Int).toNat (2:Int).toNat).toList==(⟨#[42,47]⟩:Y9).toList) (if 0≤(2:Int)∧(2:Int)≤(b.size:Int)∧(b.size:Int)≤(b.size:Int)then cond ((ac (b.extract (2:Int).toNat (b.size:Int).toNat)).2) (some (c,d,(ac (b.extract (2:Int).toNat (b.size:Int).toNat)).1,decide (((ac (b.extract (2:Int).toNat (b.size:Int).toNat)).1)≥(1:Int)))) (some (c,d,(ac (b.extract (2:Int).toNat (b.size:Int).toNat)).1,false))else none) (if b.size≤2000000 then if 0≤(45:Int)∧(45:Int)<256 then(ak (am b 45) 0).bind fun a=>cond ((ac a).2) (cond (((am b 45).length:Int)==(2:Int)) ((ak (am b 45) 1).bind fun g1=>cond ((ac g1).2) (cond (decide (((am b 45).length:Int)≤(2:Int))) (cond (decide (c≤((ac a).1))) (cond (decide (((ac a).1)≤((ac g1).1))) (some ((ac a).1,(ac g1).1,1,decide (((ac g1).1)≤d))) (some ((ac a).1,(ac g1).1,1,false))) (some ((ac a).1,(ac g1).1,1,false))) (some ((ac a).1,(ac g1).1,1,false))) (some ((ac a).1,(ac g1).1,1,false))) (cond (decide (((am b 45).length:Int)≤(2:Int))) (cond (decide (c≤((ac a).1))) (cond (decide (((ac a).1)≤((ac a).1))) (some ((ac a).1,(ac a).1,1,decide (((ac a).1)≤d))) (some ((ac a).1,(ac a).1,1,false))) (some ((ac a).1,(ac a).1,1,false))) (some ((ac a).1,(ac a).1,1,false)))) (cond (((am b 45).length:Int)==(2:Int)) ((ak (am b 45) 1).bind fun g1=>some ((ac a).1,(ac g1).1,1,false)) (some ((ac a).1,(ac a).1,1,false)))else none else none)else none) (if b.size≤2000000 then if 0≤(45:Int)∧(45:Int)<256 then(ak (am b 45) 0).bind fun a=>cond ((ac a).2) (cond (((am b 45).length:Int)==(2:Int)) ((ak (am b 45) 1).bind fun g1=>cond ((ac g1).2) (cond (decide (((am b 45).length:Int)≤(2:Int))) (cond (decide (c≤((ac a).1))) (cond (decide (((ac a).1)≤((ac g1).1))) (some ((ac a).1,(ac g1).1,1,decide (((ac g1).1)≤d))) (some ((ac a).1,(ac g1).1,1,false))) (some ((ac a).1,(ac g1).1,1,false))) (some ((ac a).1,(ac g1).1,1,false))) (some ((ac a).1,(ac g1).1,1,false))) (cond (decide (((am b 45).length:Int)≤(2:Int))) (cond (decide (c≤((ac a).1))) (cond (decide (((ac a).1)≤((ac a).1))) (some ((ac a).1,(ac a).1,1,decide (((ac a).1)≤d))) (some ((ac a).1,(ac a).1,1,false))) (some ((ac a).1,(ac a).1,1,false))) (some ((ac a).1,(ac a).1,1,false)))) (cond (((am b 45).length:Int)==(2:Int)) ((ak (am b 45) 1).bind fun g1=>some ((ac a).1,(ac g1).1,1,false)) (some ((ac a).1,(ac a).1,1,false)))else none else none))
theorem Ld (a:Y9)(q s:Int):Ans (mV a q s) (fun r=>Does E 121 [V4 a,V2 q,V2 s] [VX r.1,VX r.2.1,VX r.2.2.1,VY r.2.2.2]):=by
 unfold mV;apply VC<;>intro f
 ·exact Vz (DP Tryz.f121 [.b true] (AC f<|AN))
 ·apply VC<;>intro i
  ·apply VE;intro g;apply VC<;>intro h
   ·apply VE;intro d;apply VC<;>intro e
    ·exact Vz (DP Tryz.f121 [.b false,.b true,.b true,.ret [VX ((ac (a.extract (2:Int).toNat (a.size:Int).toNat)).1),VY true]] (AC f<|AC i<|AC g<|AC h<|AC d<|AD (aA (a.extract (2:Int).toNat (a.size:Int).toNat) e)<|AN))
    ·exact Vz (DP Tryz.f121 [.b false,.b true,.b true,.ret [VX ((ac (a.extract (2:Int).toNat (a.size:Int).toNat)).1),VY false]] (AC f<|AC i<|AC g<|AC h<|AC d<|AD (aA (a.extract (2:Int).toNat (a.size:Int).toNat) e)<|AN))
   ·apply VE;intro d;apply VE;intro e;apply VD;intro b j;apply VC<;>intro k
    ·apply VC<;>intro l
     ·apply VD;intro g1 n;apply VC<;>intro c
      ·apply VC<;>intro m
       ·apply VC<;>intro o
        ·apply VC<;>intro p
         ·exact Vz (DP Tryz.f121 [.b false,.b true,.b false,.ret [(false,[V7 1 ((am a 45).map etS)])],.row (etS b),.ret [VX ((ac b).1),VY true],V5 ((am a 45).length:Int),.b true,.row (etS g1),.ret [VX ((ac g1).1),VY true],V5 ((am a 45).length:Int),.b true,.b true,.b true] (AC f<|AC i<|AC g<|AC h<|AD (bg a 45 d e)<|AG etS j<|AD (aA b k)<|ALn (am a 45) etS<|AC l<|AG etS n<|AD (aA g1 c)<|ALn (am a 45) etS<|AC m<|AC o<|AC p<|AN))
         ·exact Vz (DP Tryz.f121 [.b false,.b true,.b false,.ret [(false,[V7 1 ((am a 45).map etS)])],.row (etS b),.ret [VX ((ac b).1),VY true],V5 ((am a 45).length:Int),.b true,.row (etS g1),.ret [VX ((ac g1).1),VY true],V5 ((am a 45).length:Int),.b true,.b true,.b false] (AC f<|AC i<|AC g<|AC h<|AD (bg a 45 d e)<|AG etS j<|AD (aA b k)<|ALn (am a 45) etS<|AC l<|AG etS n<|AD (aA g1 c)<|ALn (am a 45) etS<|AC m<|AC o<|AC p<|AN))
        ·exact Vz (DP Tryz.f121 [.b false,.b true,.b false,.ret [(false,[V7 1 ((am a 45).map etS)])],.row (etS b),.ret [VX ((ac b).1),VY true],V5 ((am a 45).length:Int),.b true,.row (etS g1),.ret [VX ((ac g1).1),VY true],V5 ((am a 45).length:Int),.b true,.b false] (AC f<|AC i<|AC g<|AC h<|AD (bg a 45 d e)<|AG etS j<|AD (aA b k)<|ALn (am a 45) etS<|AC l<|AG etS n<|AD (aA g1 c)<|ALn (am a 45) etS<|AC m<|AC o<|AN))
       ·exact Vz (DP Tryz.f121 [.b false,.b true,.b false,.ret [(false,[V7 1 ((am a 45).map etS)])],.row (etS b),.ret [VX ((ac b).1),VY true],V5 ((am a 45).length:Int),.b true,.row (etS g1),.ret [VX ((ac g1).1),VY true],V5 ((am a 45).length:Int),.b false] (AC f<|AC i<|AC g<|AC h<|AD (bg a 45 d e)<|AG etS j<|AD (aA b k)<|ALn (am a 45) etS<|AC l<|AG etS n<|AD (aA g1 c)<|ALn (am a 45) etS<|AC m<|AN))
      ·exact Vz (DP Tryz.f121 [.b false,.b true,.b false,.ret [(false,[V7 1 ((am a 45).map etS)])],.row (etS b),.ret [VX ((ac b).1),VY true],V5 ((am a 45).length:Int),.b true,.row (etS g1),.ret [VX ((ac g1).1),VY false]] (AC f<|AC i<|AC g<|AC h<|AD (bg a 45 d e)<|AG etS j<|AD (aA b k)<|ALn (am a 45) etS<|AC l<|AG etS n<|AD (aA g1 c)<|AN))
     ·apply VC<;>intro n
      ·apply VC<;>intro c
       ·apply VC<;>intro m
        ·exact Vz (DP Tryz.f121 [.b false,.b true,.b false,.ret [(false,[V7 1 ((am a 45).map etS)])],.row (etS b),.ret [VX ((ac b).1),VY true],V5 ((am a 45).length:Int),.b false,V5 ((am a 45).length:Int),.b true,.b true,.b true] (AC f<|AC i<|AC g<|AC h<|AD (bg a 45 d e)<|AG etS j<|AD (aA b k)<|ALn (am a 45) etS<|AC l<|ALn (am a 45) etS<|AC n<|AC c<|AC m<|AN))
        ·exact Vz (DP Tryz.f121 [.b false,.b true,.b false,.ret [(false,[V7 1 ((am a 45).map etS)])],.row (etS b),.ret [VX ((ac b).1),VY true],V5 ((am a 45).length:Int),.b false,V5 ((am a 45).length:Int),.b true,.b true,.b false] (AC f<|AC i<|AC g<|AC h<|AD (bg a 45 d e)<|AG etS j<|AD (aA b k)<|ALn (am a 45) etS<|AC l<|ALn (am a 45) etS<|AC n<|AC c<|AC m<|AN))
       ·exact Vz (DP Tryz.f121 [.b false,.b true,.b false,.ret [(false,[V7 1 ((am a 45).map etS)])],.row (etS b),.ret [VX ((ac b).1),VY true],V5 ((am a 45).length:Int),.b false,V5 ((am a 45).length:Int),.b true,.b false] (AC f<|AC i<|AC g<|AC h<|AD (bg a 45 d e)<|AG etS j<|AD (aA b k)<|ALn (am a 45) etS<|AC l<|ALn (am a 45) etS<|AC n<|AC c<|AN))
      ·exact Vz (DP Tryz.f121 [.b false,.b true,.b false,.ret [(false,[V7 1 ((am a 45).map etS)])],.row (etS b),.ret [VX ((ac b).1),VY true],V5 ((am a 45).length:Int),.b false,V5 ((am a 45).length:Int),.b false] (AC f<|AC i<|AC g<|AC h<|AD (bg a 45 d e)<|AG etS j<|AD (aA b k)<|ALn (am a 45) etS<|AC l<|ALn (am a 45) etS<|AC n<|AN))
    ·apply VC<;>intro l
     ·apply VD;intro g1 n;exact Vz (DP Tryz.f121 [.b false,.b true,.b false,.ret [(false,[V7 1 ((am a 45).map etS)])],.row (etS b),.ret [VX ((ac b).1),VY false],V5 ((am a 45).length:Int),.b true,.row (etS g1),.ret [VX ((ac g1).1),VY ((ac g1).2)]] (AC f<|AC i<|AC g<|AC h<|AD (bg a 45 d e)<|AG etS j<|AD (aA b k)<|ALn (am a 45) etS<|AC l<|AG etS n<|AD (pH g1)<|AN))
     ·exact Vz (DP Tryz.f121 [.b false,.b true,.b false,.ret [(false,[V7 1 ((am a 45).map etS)])],.row (etS b),.ret [VX ((ac b).1),VY false],V5 ((am a 45).length:Int),.b false] (AC f<|AC i<|AC g<|AC h<|AD (bg a 45 d e)<|AG etS j<|AD (aA b k)<|ALn (am a 45) etS<|AC l<|AN))
  ·apply VE;intro g;apply VE;intro h;apply VD;intro b d;apply VC<;>intro e
   ·apply VC<;>intro j
    ·apply VD;intro g1 k;apply VC<;>intro l
     ·apply VC<;>intro n
      ·apply VC<;>intro c
       ·apply VC<;>intro m
        ·exact Vz (DP Tryz.f121 [.b false,.b false,.ret [(false,[V7 1 ((am a 45).map etS)])],.row (etS b),.ret [VX ((ac b).1),VY true],V5 ((am a 45).length:Int),.b true,.row (etS g1),.ret [VX ((ac g1).1),VY true],V5 ((am a 45).length:Int),.b true,.b true,.b true] (AC f<|AC i<|AD (bg a 45 g h)<|AG etS d<|AD (aA b e)<|ALn (am a 45) etS<|AC j<|AG etS k<|AD (aA g1 l)<|ALn (am a 45) etS<|AC n<|AC c<|AC m<|AN))
        ·exact Vz (DP Tryz.f121 [.b false,.b false,.ret [(false,[V7 1 ((am a 45).map etS)])],.row (etS b),.ret [VX ((ac b).1),VY true],V5 ((am a 45).length:Int),.b true,.row (etS g1),.ret [VX ((ac g1).1),VY true],V5 ((am a 45).length:Int),.b true,.b true,.b false] (AC f<|AC i<|AD (bg a 45 g h)<|AG etS d<|AD (aA b e)<|ALn (am a 45) etS<|AC j<|AG etS k<|AD (aA g1 l)<|ALn (am a 45) etS<|AC n<|AC c<|AC m<|AN))
       ·exact Vz (DP Tryz.f121 [.b false,.b false,.ret [(false,[V7 1 ((am a 45).map etS)])],.row (etS b),.ret [VX ((ac b).1),VY true],V5 ((am a 45).length:Int),.b true,.row (etS g1),.ret [VX ((ac g1).1),VY true],V5 ((am a 45).length:Int),.b true,.b false] (AC f<|AC i<|AD (bg a 45 g h)<|AG etS d<|AD (aA b e)<|ALn (am a 45) etS<|AC j<|AG etS k<|AD (aA g1 l)<|ALn (am a 45) etS<|AC n<|AC c<|AN))
      ·exact Vz (DP Tryz.f121 [.b false,.b false,.ret [(false,[V7 1 ((am a 45).map etS)])],.row (etS b),.ret [VX ((ac b).1),VY true],V5 ((am a 45).length:Int),.b true,.row (etS g1),.ret [VX ((ac g1).1),VY true],V5 ((am a 45).length:Int),.b false] (AC f<|AC i<|AD (bg a 45 g h)<|AG etS d<|AD (aA b e)<|ALn (am a 45) etS<|AC j<|AG etS k<|AD (aA g1 l)<|ALn (am a 45) etS<|AC n<|AN))
     ·exact Vz (DP Tryz.f121 [.b false,.b false,.ret [(false,[V7 1 ((am a 45).map etS)])],.row (etS b),.ret [VX ((ac b).1),VY true],V5 ((am a 45).length:Int),.b true,.row (etS g1),.ret [VX ((ac g1).1),VY false]] (AC f<|AC i<|AD (bg a 45 g h)<|AG etS d<|AD (aA b e)<|ALn (am a 45) etS<|AC j<|AG etS k<|AD (aA g1 l)<|AN))
    ·apply VC<;>intro k
     ·apply VC<;>intro l
      ·apply VC<;>intro n
       ·exact Vz (DP Tryz.f121 [.b false,.b false,.ret [(false,[V7 1 ((am a 45).map etS)])],.row (etS b),.ret [VX ((ac b).1),VY true],V5 ((am a 45).length:Int),.b false,V5 ((am a 45).length:Int),.b true,.b true,.b true] (AC f<|AC i<|AD (bg a 45 g h)<|AG etS d<|AD (aA b e)<|ALn (am a 45) etS<|AC j<|ALn (am a 45) etS<|AC k<|AC l<|AC n<|AN))
       ·exact Vz (DP Tryz.f121 [.b false,.b false,.ret [(false,[V7 1 ((am a 45).map etS)])],.row (etS b),.ret [VX ((ac b).1),VY true],V5 ((am a 45).length:Int),.b false,V5 ((am a 45).length:Int),.b true,.b true,.b false] (AC f<|AC i<|AD (bg a 45 g h)<|AG etS d<|AD (aA b e)<|ALn (am a 45) etS<|AC j<|ALn (am a 45) etS<|AC k<|AC l<|AC n<|AN))
      ·exact Vz (DP Tryz.f121 [.b false,.b false,.ret [(false,[V7 1 ((am a 45).map etS)])],.row (etS b),.ret [VX ((ac b).1),VY true],V5 ((am a 45).length:Int),.b false,V5 ((am a 45).length:Int),.b true,.b false] (AC f<|AC i<|AD (bg a 45 g h)<|AG etS d<|AD (aA b e)<|ALn (am a 45) etS<|AC j<|ALn (am a 45) etS<|AC k<|AC l<|AN))
     ·exact Vz (DP Tryz.f121 [.b false,.b false,.ret [(false,[V7 1 ((am a 45).map etS)])],.row (etS b),.ret [VX ((ac b).1),VY true],V5 ((am a 45).length:Int),.b false,V5 ((am a 45).length:Int),.b false] (AC f<|AC i<|AD (bg a 45 g h)<|AG etS d<|AD (aA b e)<|ALn (am a 45) etS<|AC j<|ALn (am a 45) etS<|AC k<|AN))
   ·apply VC<;>intro j
    ·apply VD;intro g1 k;exact Vz (DP Tryz.f121 [.b false,.b false,.ret [(false,[V7 1 ((am a 45).map etS)])],.row (etS b),.ret [VX ((ac b).1),VY false],V5 ((am a 45).length:Int),.b true,.row (etS g1),.ret [VX ((ac g1).1),VY ((ac g1).2)]] (AC f<|AC i<|AD (bg a 45 g h)<|AG etS d<|AD (aA b e)<|ALn (am a 45) etS<|AC j<|AG etS k<|AD (pH g1)<|AN))
    ·exact Vz (DP Tryz.f121 [.b false,.b false,.ret [(false,[V7 1 ((am a 45).map etS)])],.row (etS b),.ret [VX ((ac b).1),VY false],V5 ((am a 45).length:Int),.b false] (AC f<|AC i<|AD (bg a 45 g h)<|AG etS d<|AD (aA b e)<|ALn (am a 45) etS<|AC j<|AN))
noncomputable def oq (a:Y9)(b c:Int):Option (Int×Int×Int×Bool):=cond (a.toList==(⟨#[42]⟩:Y9).toList) (some (b,c,1,true)) (cond ((cb a (⟨#[42,47]⟩:Y9)).2) (cond ((ac ((cb a (⟨#[42,47]⟩:Y9)).1)).2) (some (b,c,(ac ((cb a (⟨#[42,47]⟩:Y9)).1)).1,decide (((ac ((cb a (⟨#[42,47]⟩:Y9)).1)).1)≥(1:Int)))) (some (b,c,(ac ((cb a (⟨#[42,47]⟩:Y9)).1)).1,false))) (if a.size<4294967281 then cond ((aQ a (⟨#[45]⟩:Y9)).2.2) (cond ((ac ((aQ a (⟨#[45]⟩:Y9)).1)).2) (cond ((ac ((aQ a (⟨#[45]⟩:Y9)).2.1)).2) (cond (decide (((ac ((aQ a (⟨#[45]⟩:Y9)).1)).1)≥b)) (cond (decide (((ac ((aQ a (⟨#[45]⟩:Y9)).1)).1)≤((ac ((aQ a (⟨#[45]⟩:Y9)).2.1)).1))) (some ((ac ((aQ a (⟨#[45]⟩:Y9)).1)).1,(ac ((aQ a (⟨#[45]⟩:Y9)).2.1)).1,1,decide (((ac ((aQ a (⟨#[45]⟩:Y9)).2.1)).1)≤c))) (some ((ac ((aQ a (⟨#[45]⟩:Y9)).1)).1,(ac ((aQ a (⟨#[45]⟩:Y9)).2.1)).1,1,false))) (some ((ac ((aQ a (⟨#[45]⟩:Y9)).1)).1,(ac ((aQ a (⟨#[45]⟩:Y9)).2.1)).1,1,false))) (some ((ac ((aQ a (⟨#[45]⟩:Y9)).1)).1,(ac ((aQ a (⟨#[45]⟩:Y9)).2.1)).1,1,false))) (some ((ac ((aQ a (⟨#[45]⟩:Y9)).1)).1,(ac ((aQ a (⟨#[45]⟩:Y9)).2.1)).1,1,false))) (cond ((ac ((aQ a (⟨#[45]⟩:Y9)).1)).2) (cond (decide (((ac ((aQ a (⟨#[45]⟩:Y9)).1)).1)≥b)) (cond (decide (((ac ((aQ a (⟨#[45]⟩:Y9)).1)).1)≤((ac ((aQ a (⟨#[45]⟩:Y9)).1)).1))) (some ((ac ((aQ a (⟨#[45]⟩:Y9)).1)).1,(ac ((aQ a (⟨#[45]⟩:Y9)).1)).1,1,decide (((ac ((aQ a (⟨#[45]⟩:Y9)).1)).1)≤c))) (some ((ac ((aQ a (⟨#[45]⟩:Y9)).1)).1,(ac ((aQ a (⟨#[45]⟩:Y9)).1)).1,1,false))) (some ((ac ((aQ a (⟨#[45]⟩:Y9)).1)).1,(ac ((aQ a (⟨#[45]⟩:Y9)).1)).1,1,false))) (some ((ac ((aQ a (⟨#[45]⟩:Y9)).1)).1,(ac ((aQ a (⟨#[45]⟩:Y9)).1)).1,1,false)))else none))
theorem Mw (a:Y9)(i j:Int):Ans (oq a i j) (fun r=>Does E 139 [V4 a,V2 i,V2 j] [VX r.1,VX r.2.1,VX r.2.2.1,VY r.2.2.2]):=by
 unfold oq;apply VC<;>intro b
 ·exact Vz (DP Tryz.f139 [.b true] (AC b<|AN))
 ·apply VC<;>intro d
  ·apply VC<;>intro c
   ·exact Vz (DP Tryz.f139 [.b false,.ret [VZ ((cb a (⟨#[42,47]⟩:Y9)).1),VY true],.ret [VX ((ac ((cb a (⟨#[42,47]⟩:Y9)).1)).1),VY true]] (AC b<|AD (VF (rs':=[VZ ((cb a (⟨#[42,47]⟩:Y9)).1),VY true]) (bW a (⟨#[42,47]⟩:Y9)) (by rw[d]))<|AD (bB ((cb a (⟨#[42,47]⟩:Y9)).1) c)<|AN))
   ·exact Vz (DP Tryz.f139 [.b false,.ret [VZ ((cb a (⟨#[42,47]⟩:Y9)).1),VY true],.ret [VX ((ac ((cb a (⟨#[42,47]⟩:Y9)).1)).1),VY false]] (AC b<|AD (VF (rs':=[VZ ((cb a (⟨#[42,47]⟩:Y9)).1),VY true]) (bW a (⟨#[42,47]⟩:Y9)) (by rw[d]))<|AD (bB ((cb a (⟨#[42,47]⟩:Y9)).1) c)<|AN))
  ·apply VE;intro c;apply VC<;>intro f
   ·apply VC<;>intro e
    ·apply VC<;>intro g
     ·apply VC<;>intro h
      ·apply VC<;>intro k
       ·exact Vz (DP Tryz.f139 [.b false,.ret [VZ ((cb a (⟨#[42,47]⟩:Y9)).1),VY false],.ret [VZ ((aQ a (⟨#[45]⟩:Y9)).1),VZ ((aQ a (⟨#[45]⟩:Y9)).2.1),VY true],.ret [VX ((ac ((aQ a (⟨#[45]⟩:Y9)).1)).1),VY true],.ret [VX ((ac ((aQ a (⟨#[45]⟩:Y9)).2.1)).1),VY true],.b true,.b true] (AC b<|AD (VF (rs':=[VZ ((cb a (⟨#[42,47]⟩:Y9)).1),VY false]) (bW a (⟨#[42,47]⟩:Y9)) (by rw[d]))<|AD (VF (rs':=[VZ ((aQ a (⟨#[45]⟩:Y9)).1),VZ ((aQ a (⟨#[45]⟩:Y9)).2.1),VY true]) (fj a (⟨#[45]⟩:Y9) c) (by rw[f]))<|AD (bB ((aQ a (⟨#[45]⟩:Y9)).1) e)<|AD (bB ((aQ a (⟨#[45]⟩:Y9)).2.1) g)<|AC h<|AC k<|AN))
       ·exact Vz (DP Tryz.f139 [.b false,.ret [VZ ((cb a (⟨#[42,47]⟩:Y9)).1),VY false],.ret [VZ ((aQ a (⟨#[45]⟩:Y9)).1),VZ ((aQ a (⟨#[45]⟩:Y9)).2.1),VY true],.ret [VX ((ac ((aQ a (⟨#[45]⟩:Y9)).1)).1),VY true],.ret [VX ((ac ((aQ a (⟨#[45]⟩:Y9)).2.1)).1),VY true],.b true,.b false] (AC b<|AD (VF (rs':=[VZ ((cb a (⟨#[42,47]⟩:Y9)).1),VY false]) (bW a (⟨#[42,47]⟩:Y9)) (by rw[d]))<|AD (VF (rs':=[VZ ((aQ a (⟨#[45]⟩:Y9)).1),VZ ((aQ a (⟨#[45]⟩:Y9)).2.1),VY true]) (fj a (⟨#[45]⟩:Y9) c) (by rw[f]))<|AD (bB ((aQ a (⟨#[45]⟩:Y9)).1) e)<|AD (bB ((aQ a (⟨#[45]⟩:Y9)).2.1) g)<|AC h<|AC k<|AN))
      ·exact Vz (DP Tryz.f139 [.b false,.ret [VZ ((cb a (⟨#[42,47]⟩:Y9)).1),VY false],.ret [VZ ((aQ a (⟨#[45]⟩:Y9)).1),VZ ((aQ a (⟨#[45]⟩:Y9)).2.1),VY true],.ret [VX ((ac ((aQ a (⟨#[45]⟩:Y9)).1)).1),VY true],.ret [VX ((ac ((aQ a (⟨#[45]⟩:Y9)).2.1)).1),VY true],.b false] (AC b<|AD (VF (rs':=[VZ ((cb a (⟨#[42,47]⟩:Y9)).1),VY false]) (bW a (⟨#[42,47]⟩:Y9)) (by rw[d]))<|AD (VF (rs':=[VZ ((aQ a (⟨#[45]⟩:Y9)).1),VZ ((aQ a (⟨#[45]⟩:Y9)).2.1),VY true]) (fj a (⟨#[45]⟩:Y9) c) (by rw[f]))<|AD (bB ((aQ a (⟨#[45]⟩:Y9)).1) e)<|AD (bB ((aQ a (⟨#[45]⟩:Y9)).2.1) g)<|AC h<|AN))
     ·exact Vz (DP Tryz.f139 [.b false,.ret [VZ ((cb a (⟨#[42,47]⟩:Y9)).1),VY false],.ret [VZ ((aQ a (⟨#[45]⟩:Y9)).1),VZ ((aQ a (⟨#[45]⟩:Y9)).2.1),VY true],.ret [VX ((ac ((aQ a (⟨#[45]⟩:Y9)).1)).1),VY true],.ret [VX ((ac ((aQ a (⟨#[45]⟩:Y9)).2.1)).1),VY false]] (AC b<|AD (VF (rs':=[VZ ((cb a (⟨#[42,47]⟩:Y9)).1),VY false]) (bW a (⟨#[42,47]⟩:Y9)) (by rw[d]))<|AD (VF (rs':=[VZ ((aQ a (⟨#[45]⟩:Y9)).1),VZ ((aQ a (⟨#[45]⟩:Y9)).2.1),VY true]) (fj a (⟨#[45]⟩:Y9) c) (by rw[f]))<|AD (bB ((aQ a (⟨#[45]⟩:Y9)).1) e)<|AD (bB ((aQ a (⟨#[45]⟩:Y9)).2.1) g)<|AN))
    ·exact Vz (DP Tryz.f139 [.b false,.ret [VZ ((cb a (⟨#[42,47]⟩:Y9)).1),VY false],.ret [VZ ((aQ a (⟨#[45]⟩:Y9)).1),VZ ((aQ a (⟨#[45]⟩:Y9)).2.1),VY true],.ret [VX ((ac ((aQ a (⟨#[45]⟩:Y9)).1)).1),VY false],.ret [VX ((ac ((aQ a (⟨#[45]⟩:Y9)).2.1)).1),VY ((ac ((aQ a (⟨#[45]⟩:Y9)).2.1)).2)]] (AC b<|AD (VF (rs':=[VZ ((cb a (⟨#[42,47]⟩:Y9)).1),VY false]) (bW a (⟨#[42,47]⟩:Y9)) (by rw[d]))<|AD (VF (rs':=[VZ ((aQ a (⟨#[45]⟩:Y9)).1),VZ ((aQ a (⟨#[45]⟩:Y9)).2.1),VY true]) (fj a (⟨#[45]⟩:Y9) c) (by rw[f]))<|AD (bB ((aQ a (⟨#[45]⟩:Y9)).1) e)<|AD (vh ((aQ a (⟨#[45]⟩:Y9)).2.1))<|AN))
   ·apply VC<;>intro e
    ·apply VC<;>intro g
     ·apply VC<;>intro h
      ·exact Vz (DP Tryz.f139 [.b false,.ret [VZ ((cb a (⟨#[42,47]⟩:Y9)).1),VY false],.ret [VZ ((aQ a (⟨#[45]⟩:Y9)).1),VZ ((aQ a (⟨#[45]⟩:Y9)).2.1),VY false],.ret [VX ((ac ((aQ a (⟨#[45]⟩:Y9)).1)).1),VY true],.b true,.b true] (AC b<|AD (VF (rs':=[VZ ((cb a (⟨#[42,47]⟩:Y9)).1),VY false]) (bW a (⟨#[42,47]⟩:Y9)) (by rw[d]))<|AD (VF (rs':=[VZ ((aQ a (⟨#[45]⟩:Y9)).1),VZ ((aQ a (⟨#[45]⟩:Y9)).2.1),VY false]) (fj a (⟨#[45]⟩:Y9) c) (by rw[f]))<|AD (bB ((aQ a (⟨#[45]⟩:Y9)).1) e)<|AC g<|AC h<|AN))
      ·exact Vz (DP Tryz.f139 [.b false,.ret [VZ ((cb a (⟨#[42,47]⟩:Y9)).1),VY false],.ret [VZ ((aQ a (⟨#[45]⟩:Y9)).1),VZ ((aQ a (⟨#[45]⟩:Y9)).2.1),VY false],.ret [VX ((ac ((aQ a (⟨#[45]⟩:Y9)).1)).1),VY true],.b true,.b false] (AC b<|AD (VF (rs':=[VZ ((cb a (⟨#[42,47]⟩:Y9)).1),VY false]) (bW a (⟨#[42,47]⟩:Y9)) (by rw[d]))<|AD (VF (rs':=[VZ ((aQ a (⟨#[45]⟩:Y9)).1),VZ ((aQ a (⟨#[45]⟩:Y9)).2.1),VY false]) (fj a (⟨#[45]⟩:Y9) c) (by rw[f]))<|AD (bB ((aQ a (⟨#[45]⟩:Y9)).1) e)<|AC g<|AC h<|AN))
     ·exact Vz (DP Tryz.f139 [.b false,.ret [VZ ((cb a (⟨#[42,47]⟩:Y9)).1),VY false],.ret [VZ ((aQ a (⟨#[45]⟩:Y9)).1),VZ ((aQ a (⟨#[45]⟩:Y9)).2.1),VY false],.ret [VX ((ac ((aQ a (⟨#[45]⟩:Y9)).1)).1),VY true],.b false] (AC b<|AD (VF (rs':=[VZ ((cb a (⟨#[42,47]⟩:Y9)).1),VY false]) (bW a (⟨#[42,47]⟩:Y9)) (by rw[d]))<|AD (VF (rs':=[VZ ((aQ a (⟨#[45]⟩:Y9)).1),VZ ((aQ a (⟨#[45]⟩:Y9)).2.1),VY false]) (fj a (⟨#[45]⟩:Y9) c) (by rw[f]))<|AD (bB ((aQ a (⟨#[45]⟩:Y9)).1) e)<|AC g<|AN))
    ·exact Vz (DP Tryz.f139 [.b false,.ret [VZ ((cb a (⟨#[42,47]⟩:Y9)).1),VY false],.ret [VZ ((aQ a (⟨#[45]⟩:Y9)).1),VZ ((aQ a (⟨#[45]⟩:Y9)).2.1),VY false],.ret [VX ((ac ((aQ a (⟨#[45]⟩:Y9)).1)).1),VY false]] (AC b<|AD (VF (rs':=[VZ ((cb a (⟨#[42,47]⟩:Y9)).1),VY false]) (bW a (⟨#[42,47]⟩:Y9)) (by rw[d]))<|AD (VF (rs':=[VZ ((aQ a (⟨#[45]⟩:Y9)).1),VZ ((aQ a (⟨#[45]⟩:Y9)).2.1),VY false]) (fj a (⟨#[45]⟩:Y9) c) (by rw[f]))<|AD (bB ((aQ a (⟨#[45]⟩:Y9)).1) e)<|AN))
def zC (r:Int×Int×Int×Bool)(o:Option (Int×Int×Int)):Prop :=
 match o with|some (a,b,c)=>r=(a,b,c,true)|none=>r.2.2.2=false
noncomputable def xl (a:List (List UInt8))(lo hi:Int):Option (Int×Int×Int):=
 match a with
 |[p]=>if(ac (ofTx p)).2=true∧lo≤(ac (ofTx p)).1∧(ac (ofTx p)).1≤hi then some ((ac (ofTx p)).1,(ac (ofTx p)).1,1)else none
 |[p,q]=>if(ac (ofTx p)).2=true∧(ac (ofTx q)).2=true∧lo≤(ac (ofTx p)).1∧(ac (ofTx p)).1≤(ac (ofTx q)).1∧(ac (ofTx q)).1≤hi then some ((ac (ofTx p)).1,(ac (ofTx q)).1,1)else none
 |_=>none
theorem C8 (p:List UInt8)(lo hi:Int):xl [p] lo hi=if(ac (ofTx p)).2=true∧lo≤(ac (ofTx p)).1∧(ac (ofTx p)).1≤hi then some ((ac (ofTx p)).1,(ac (ofTx p)).1,1)else none:=rfl
theorem KL (p q:List UInt8)(lo hi:Int):xl [p,q] lo hi=if(ac (ofTx p)).2=true∧(ac (ofTx q)).2=true∧lo≤(ac (ofTx p)).1∧(ac (ofTx p)).1≤(ac (ofTx q)).1∧(ac (ofTx q)).1≤hi then some ((ac (ofTx p)).1,(ac (ofTx q)).1,1)else none:=rfl
theorem KM (p q r:List UInt8)(l:List (List UInt8))(lo hi:Int):xl (p::q::r::l) lo hi=none:=rfl
noncomputable def yn (s:Y9)(lo hi:Int):Option (Int×Int×Int):=if tx s=[42]then some (lo,hi,1) else if [42,47].isPrefixOf (tx s)=true then (if(ac (ofTx ((tx s).drop 2))).2=true∧1≤(ac (ofTx ((tx s).drop 2))).1 then some (lo,hi,(ac (ofTx ((tx s).drop 2))).1)else none) else xl (cd 45 (tx s)) lo hi
noncomputable def dF (s:Y9)(lo hi:Int):Int×Int×Int×Bool:=(mV s lo hi).getD (0,0,0,false)
noncomputable def dE (s:Y9)(lo hi:Int):Int×Int×Int×Bool:=(oq s lo hi).getD (0,0,0,false)
theorem KN {o:Option (Int×Int×Int×Bool)}{p:Option (Int×Int×Int)}{d:Int×Int×Int×Bool}(h:∃r,o=some r∧zC r p):o=some (o.getD d)∧zC (o.getD d) p:=by obtain⟨r,rfl,h⟩:=h;exact⟨rfl,h⟩
theorem Rs (L:List Y9)(i:List (List UInt8))(n:L=i.map ofTx)(lo hi:Int)(m:∃x xs,i=x::xs):
  ∃r,((ak L 0).bind fun e=>cond ((ac e).2)
     (cond ((L.length:Int)==(2:Int))
      ((ak L 1).bind fun g1=>cond ((ac g1).2)
       (cond (decide ((L.length:Int)≤(2:Int)))
        (cond (decide (lo≤((ac e).1)))
         (cond (decide (((ac e).1)≤((ac g1).1)))
          (some ((ac e).1,(ac g1).1,1,decide (((ac g1).1)≤hi)))
          (some ((ac e).1,(ac g1).1,1,false)))
         (some ((ac e).1,(ac g1).1,1,false)))
        (some ((ac e).1,(ac g1).1,1,false)))
       (some ((ac e).1,(ac g1).1,1,false)))
      (cond (decide ((L.length:Int)≤(2:Int)))
       (cond (decide (lo≤((ac e).1)))
        (cond (decide (((ac e).1)≤((ac e).1)))
         (some ((ac e).1,(ac e).1,1,decide (((ac e).1)≤hi)))
         (some ((ac e).1,(ac e).1,1,false)))
        (some ((ac e).1,(ac e).1,1,false)))
       (some ((ac e).1,(ac e).1,1,false))))
     (cond ((L.length:Int)==(2:Int))
      ((ak L 1).bind fun g1=>some ((ac e).1,(ac g1).1,1,false))
      (some ((ac e).1,(ac e).1,1,false))))=some r∧zC r (xl i lo hi):=by
 subst n
 match i,m with
 |[p],_ =>
  have e:ak ([p].map ofTx) 0=some (ofTx p):=rfl;have j:((([p].map ofTx).length:Int)==2)=false:=rfl;have k:decide ((([p].map ofTx).length:Int)≤2)=true:=rfl;rw[e,j,k,C8,V9];simp only[Wn,Wu];generalize ac (ofTx p)=a;obtain⟨a,b⟩:=a;cases b with
  |false=>exact⟨_,rfl,by rw[Wo (by simp)];exact rfl⟩
  |true =>
   rw[Wn];by_cases f:lo≤a
   ·rw[Wi f,Wn,Wi (Xb _),Wn];refine⟨_,rfl,?_⟩;by_cases g:a≤hi
    ·rw[Wi g,Wa ⟨rfl,f,g⟩];exact rfl
    ·rw[Wj g,Wo (fun h=>g h.2.2)];exact rfl
   ·rw[Wj f];exact⟨_,rfl,by rw[Wo (fun h=>f h.2.1)];exact rfl⟩
 |[p,q],_ =>
  have e:ak ([p,q].map ofTx) 0=some (ofTx p):=rfl;have g1:ak ([p,q].map ofTx) 1=some (ofTx q):=rfl;have j:((([p,q].map ofTx).length:Int)==2)=true:=rfl;have k:decide ((([p,q].map ofTx).length:Int)≤2)=true:=rfl;rw[e,g1,j,k,KL,V9,V9];simp only[Wn,Wu];generalize ac (ofTx p)=a;generalize ac (ofTx q)=c;obtain⟨a,b⟩:=a;obtain⟨c,d⟩:=c;cases b with
  |false=>exact⟨_,rfl,by rw[Wo (by simp)];exact rfl⟩
  |true =>
   cases d with
   |false=>exact⟨_,rfl,by rw[Wo (by simp)];exact rfl⟩
   |true =>
    rw[Wn,Wn];by_cases f:lo≤a
    ·rw[Wi f,Wn];by_cases l:a≤c
     ·rw[Wi l,Wn];refine⟨_,rfl,?_⟩;by_cases g:c≤hi
      ·rw[Wi g,Wa ⟨rfl,rfl,f,l,g⟩];exact rfl
      ·rw[Wj g,Wo (fun h=>g h.2.2.2.2)];exact rfl
     ·rw[Wj l];exact⟨_,rfl,by rw[Wo (fun h=>l h.2.2.2.1)];exact rfl⟩
    ·rw[Wj f];exact⟨_,rfl,by rw[Wo (fun h=>f h.2.2.1)];exact rfl⟩
 |p::q::t::i,_ =>
  have j:((((p::q::t::i).map ofTx).length:Int)==2)=false:=by rw[W5];simp;omega
  have k:decide ((((p::q::t::i).map ofTx).length:Int)≤2)=false:=Wj (by simp;omega);rw[j,k,KM];have e:ak ((p::q::t::i).map ofTx) 0=some (ofTx p):=rfl;rw[e,V9];cases(ac (ofTx p)).2 with
  |false=>exact⟨_,rfl,rfl⟩
  |true=>exact⟨_,rfl,rfl⟩
theorem G9 (s:Y9)(lo hi:Int)(hs:s.size≤2000000):mV s lo hi=some (dF s lo hi)∧zC (dF s lo hi) (yn s lo hi):=by
 refine KN ?_;unfold mV yn;have j:tx (⟨#[42]⟩:Y9)=[42]:=rfl;have d:tx (⟨#[42,47]⟩:Y9)=[42,47]:=rfl;rw[hJ,j];by_cases h:tx s=[42]
 ·rw[Wi h,Wa h];exact⟨_,rfl,rfl⟩
 ·have n:(s.size≤2000000)=True:=Yb hs;have hc:((0:Int)≤45∧(45:Int)<256)=True:=Yb (by decide);have o:am s 45=(cd 45 (tx s)).map ofTx:=rfl;have k:=Rs (am s 45) (cd 45 (tx s)) o lo hi (jQ _ _);rw[Wj h,Wo h,Wu];simp only[n,hc,WN];have hz:=dQ s;by_cases f:2<s.size
  ·rw[Wi (by omega),Wn,Wa (by omega),hJ,d,E3];have g:[42,47].isPrefixOf (tx s)=decide (seg (tx s) (0:Int).toNat (2:Int).toNat=[42,47]):=by
    obtain⟨a,b,l,e⟩:∃a b l,tx s=a::b::l:=by
     cases q:tx s with
     |nil=>rw[q]at hz;have:s.size=0:=hz;omega
     |cons a l =>
      cases l with
      |nil=>rw[q]at hz;have:s.size=1:=hz;omega
      |cons b l=>exact⟨a,b,l,rfl⟩
    have:seg (a::b::l) (0:Int).toNat (2:Int).toNat=[a,b]:=by simp[seg]
    have p:∀x y:UInt8,(x==y)=decide (y=x):=fun x y=>by
     by_cases h:y=x
     ·subst h;simp
     ·rw[Wj h,W5];exact fun e=>h e.symm
    rw[e,this];simp[List.isPrefixOf,p]
   rw[g];have t:s.extract (2:Int).toNat (s.size:Int).toNat=ofTx ((tx s).drop 2):=by rw[ol];unfold seg;rw[XB (by omega)];rfl
   by_cases q:seg (tx s) (0:Int).toNat (2:Int).toNat=[42,47]
   ·rw[Wi q,Wn,Wa rfl,Wa (by omega),t];generalize ac (ofTx ((tx s).drop 2))=a;obtain⟨a,b⟩:=a;cases b with
    |false=>exact⟨_,rfl,by rw[Wo (by simp)];exact rfl⟩
    |true =>
     refine⟨_,rfl,?_⟩;by_cases z:1≤a
     ·rw[Wi (show a≥1 from z),Wa ⟨rfl,z⟩];exact rfl
     ·rw[Wj (show ¬a≥1 from z),Wo (fun h=>z h.2)];exact rfl
   ·rw[Wj q,Wu,Wo (by simp)];exact k
  ·rw[Wj (by omega),Wu];by_cases q:[42,47].isPrefixOf (tx s)=true
   ·rw[Wa q];have e:tx s=[42,47]:=by
     cases w:tx s with
     |nil=>rw[w]at q;simp[List.isPrefixOf]at q
     |cons a l =>
      cases l with
      |nil=>rw[w]at q;simp[List.isPrefixOf]at q
      |cons b l =>
       cases l with
       |nil=>rw[w]at q;simp[List.isPrefixOf]at q;rw[←q.1, ←q.2]
       |cons c l=>rw[w]at hz;simp at hz;omega
    have hb:(ac (ofTx ((tx s).drop 2)))=(0,false):=by
     rw[e];show ac (ofTx [])=_;unfold ac;rw[Wo (by decide)];have:¬tx (bE 0)=tx (ofTx []):=by unfold bE Lib.itoa;rw[Wo (by omega),Lib.decDigits,dif_pos (by simp)];simp[tx,ofTx]
     show(if(1000000000:Int)<0 then _ else if _ then _ else _)=_;rw[Wo (by decide),Wo this]
    rw[hb,Wo (by simp)];obtain⟨r,u,f⟩:=k;refine⟨r,u,?_⟩;rw[e]at f;have i:cd 45 ([42,47]:List UInt8)=[[42,47]]:=wP (by decide);rw[i,C8]at f;have m:ac (ofTx [42,47])=(0,false):=Cp (b:=42) (by rw[xz];simp) (by decide);simp only[m]at f;rw[Wo (by simp)]at f;exact f
   ·rw[Wo q];exact k
theorem G8 (s:Y9)(lo hi:Int)(hs:s.size≤2000000):oq s lo hi=some (dE s lo hi)∧zC (dE s lo hi) (yn s lo hi):=by
 refine KN ?_;unfold oq yn;have k:tx (⟨#[42]⟩:Y9)=[42]:=rfl;rw[hJ,k];by_cases h:tx s=[42]
 ·rw[Wi h,Wa h];exact⟨_,rfl,rfl⟩
 ·rw[Wj h,Wo h,Wu];have l:(cb s (⟨#[42,47]⟩:Y9)).2=[42,47].isPrefixOf (tx s):=rfl;rw[l];by_cases q:[42,47].isPrefixOf (tx s)=true
  ·have m:(cb s (⟨#[42,47]⟩:Y9)).1=ofTx ((tx s).drop 2):=by show ofTx (Lib.trimPrefix (tx s) [42,47])=_;unfold Lib.trimPrefix Lib.hasPrefix;rw[Wa q];rfl
   rw[q,Wn,Wa rfl,m];generalize ac (ofTx ((tx s).drop 2))=a;obtain⟨a,b⟩:=a;cases b with
   |false=>exact⟨_,rfl,by rw[Wo (by simp)];exact rfl⟩
   |true =>
    refine⟨_,rfl,?_⟩;by_cases z:1≤a
    ·rw[Wi (show a≥1 from z),Wa ⟨rfl,z⟩];exact rfl
    ·rw[Wj (show ¬a≥1 from z),Wo (fun h=>z h.2)];exact rfl
  ·rw[Wo q];rw[X7]at q;rw[q,Wu,Wa (by omega)];rcases Jq (tx s) 45 with⟨i,f,j⟩|⟨a,b,i,f,j,o⟩
   ·have n:aQ s (⟨#[45]⟩:Y9)=(s,ofTx [],false):=by show(ofTx (Lib.cut (tx s) [45]).1,ofTx (Lib.cut (tx s) [45]).2.1,(Lib.cut (tx s) [45]).2.2)=_;rw[f];rfl
    rw[n,j,C8];simp only[Wu];rw[xj];generalize ac s=a;obtain⟨a,b⟩:=a;cases b with
    |false=>exact⟨_,rfl,by rw[Wo (by simp)];exact rfl⟩
    |true =>
     rw[Wn];by_cases i:lo≤a
     ·rw[Wi (show a≥lo from i),Wn,Wi (Xb _),Wn];refine⟨_,rfl,?_⟩;by_cases f:a≤hi
      ·rw[Wi f,Wa ⟨rfl,i,f⟩];exact rfl
      ·rw[Wj f,Wo (fun h=>f h.2.2)];exact rfl
     ·rw[Wj (show ¬a≥lo from i)];exact⟨_,rfl,by rw[Wo (fun h=>i h.2.1)];exact rfl⟩
   ·have n:aQ s (⟨#[45]⟩:Y9)=(ofTx a,ofTx b,true):=by show(ofTx (Lib.cut (tx s) [45]).1,ofTx (Lib.cut (tx s) [45]).2.1,(Lib.cut (tx s) [45]).2.2)=_;rw[j]
    rw[n,o];simp only[Wn];by_cases hb:(45:UInt8)∈b
    ·have p:ac (ofTx b)=(0,false):=Cp (b:=45) (by rw[xz];exact hb) (by decide);have r:∃x y z,cd 45 b=x::y::z:=by
      rcases Jq b 45 with⟨g,_⟩|⟨c,d,_,_,_,g⟩
      ·exact absurd hb g
      ·obtain⟨y,z,e⟩:=jQ 45 d;exact⟨c,y,z,by rw[g,e]⟩
     obtain⟨x,y,z,e⟩:=r;rw[e,p,KM];cases(ac (ofTx a)).2 with
     |false=>exact⟨_,rfl,rfl⟩
     |true=>exact⟨_,rfl,rfl⟩
    ·rw[wP hb,KL];generalize ac (ofTx a)=a;generalize ac (ofTx b)=c;obtain⟨a,b⟩:=a;obtain⟨c,d⟩:=c;cases b with
     |false=>exact⟨_,rfl,by rw[Wo (by simp)];exact rfl⟩
     |true =>
      cases d with
      |false=>exact⟨_,rfl,by rw[Wo (by simp)];exact rfl⟩
      |true =>
       rw[Wn,Wn];by_cases i:lo≤a
       ·rw[Wi (show a≥lo from i),Wn];by_cases j:a≤c
        ·rw[Wi j,Wn];refine⟨_,rfl,?_⟩;by_cases f:c≤hi
         ·rw[Wi f,Wa ⟨rfl,rfl,i,j,f⟩];exact rfl
         ·rw[Wj f,Wo (fun h=>f h.2.2.2.2)];exact rfl
        ·rw[Wj j];exact⟨_,rfl,by rw[Wo (fun h=>j h.2.2.2.1)];exact rfl⟩
       ·rw[Wj (show ¬a≥lo from i)];exact⟨_,rfl,by rw[Wo (fun h=>i h.2.2.1)];exact rfl⟩
theorem SO {s:Y9}{lo hi a b c:Int}(d:lo≤hi)(h:yn s lo hi=some (a,b,c)):lo≤a∧a≤b∧b≤hi∧1≤c∧c≤1000000000:=by
 unfold yn at h;split at h
 ·cases h;exact⟨Xb _,d,Xb _,Xb _,by decide⟩
 ·split at h
  ·split at h
   ·rename_i z;have:=PI (ofTx ((tx s).drop 2));cases h;exact⟨Xb _,d,Xb _,z.2,this.2⟩
   ·cases h
  ·unfold xl at h;split at h
   ·split at h
    ·rename_i z;cases h;exact⟨z.2.1,Xb _,z.2.2,Xb _,by decide⟩
    ·cases h
   ·split at h
    ·rename_i z;cases h;exact⟨z.2.2.1,z.2.2.2.1,z.2.2.2.2,Xb _,by decide⟩
    ·cases h
   ·cases h
theorem Jd (a:Y9)(b:Int)(c:Int)(h:a.size≤2000000):Does E 121 [V4 a,V2 b,V2 c] [VX ((dF a b c).1),VX ((dF a b c).2.1),VX ((dF a b c).2.2.1),VY ((dF a b c).2.2.2)]:=by exact Ld a b c _ (G9 a b c h).1
theorem wJ (a:Y9)(b:Int)(c:Int)(h:a.size≤2000000){e:Bool}(d:(dF a b c).2.2.2=e):Does E 121 [V4 a,V2 b,V2 c] [VX ((dF a b c).1),VX ((dF a b c).2.1),VX ((dF a b c).2.2.1),VY e]:=by rw[←d];exact Jd a b c h
theorem LP (a:Y9)(b:Int)(c:Int)(h:a.size≤2000000):Does E 139 [V4 a,V2 b,V2 c] [VX ((dE a b c).1),VX ((dE a b c).2.1),VX ((dE a b c).2.2.1),VY ((dE a b c).2.2.2)]:=by exact Mw a b c _ (G8 a b c h).1
theorem yE (a:Y9)(b:Int)(c:Int)(h:a.size≤2000000){e:Bool}(d:(dE a b c).2.2.2=e):Does E 139 [V4 a,V2 b,V2 c] [VX ((dE a b c).1),VX ((dE a b c).2.1),VX ((dE a b c).2.2.1),VY e]:=by rw[←d];exact LP a b c h
noncomputable def ni (a:Int):Option (Int×Int):=cond (a==(0:Int)) (some (0,59)) (cond (a==(1:Int)) (some (0,23)) (cond (a==(2:Int)) (some (1,31)) (cond (a==(3:Int)) (some (1,12)) (some (0,6)))))
theorem O5 (d:Int):Ans (ni d) (fun r=>Does E 138 [V2 d] [VX r.1,VX r.2]):=by
 unfold ni;apply VC<;>intro a
 ·exact Vz (DP Tryz.f138 [.b true] (AC a<|AN))
 ·apply VC<;>intro b
  ·exact Vz (DP Tryz.f138 [.b false,.b true] (AC a<|AC b<|AN))
  ·apply VC<;>intro c
   ·exact Vz (DP Tryz.f138 [.b false,.b false,.b true] (AC a<|AC b<|AC c<|AN))
   ·apply VC<;>intro e
    ·exact Vz (DP Tryz.f138 [.b false,.b false,.b false,.b true] (AC a<|AC b<|AC c<|AC e<|AN))
    ·exact Vz (DP Tryz.f138 [.b false,.b false,.b false,.b false] (AC a<|AC b<|AC c<|AC e<|AN))
noncomputable def aM (i:Int):Int×Int:=(ni i).getD (0,0)
theorem Ow (i:Int):ni i=some (aM i):=by refine Tot.getD ?_ _;unfold ni;repeat' (first|exact Tot.some _|apply Tot.cond)
theorem Qn (i:Int):0≤(aM i).1∧(aM i).1≤(aM i).2∧(aM i).2≤59:=by unfold aM ni;cases i==0<;>cases i==1<;>cases i==2<;>cases i==3<;>exact⟨by decide,by decide,by decide⟩
theorem cy (a:Int):Does E 138 [V2 a] [VX ((aM a).1),VX ((aM a).2)]:=by exact O5 a _ (Ow a)
inductive zh where|x4 (v16:List Int)
def jW (v2:Int)(v8:List Bool)(v16:List Int)(a:Int):US:=stL 70 [(2,V2 v2),(8,.one (V7 1 (v8.map etB))),(16,.one (V7 1 (v16.map etI))),(17,V2 a)]
def qL (a:List Int):US:=stL 70 [(16,.one (V7 1 (a.map etI)))]
abbrev tj:US→Exit→US→Prop:=Round E 108 (an Tryz.f108 2)
def Io (v2:Int)(v8:List Bool)(v16:List Int)(b:Int):zh→Prop| .x4 a=>Loops E 108 (an Tryz.f108 2) (jW v2 v8 v16 b) (.exit 4) (qL a)
noncomputable def gz (v2:Int)(v8:List Bool):Nat→(List Int)→Int→Option zh| 0,_,_=>none|n+1,v16,a=>cond (decide (a≤v2)) ((ak v8 a).bind fun b=>cond (b) (if(v16.length+([a]).length)*8≤140737488355328∧v16.length+([a]).length≤4611686018427387904 then gz v2 v8 n (v16++([a])) (inc a)else none) (gz v2 v8 n v16 (inc a))) (some (.x4 v16))
theorem Il (v2:Int)(v8:List Bool)(n:Nat):∀(v16:List Int)(a:Int),Ans (gz v2 v8 n v16 a) (Io v2 v8 v16 a):=by
 induction n with
 |zero=>intros;exact Ans.none
 |succ n e =>
  intro v16 a;unfold gz;apply VC<;>intro c
  ·apply VD;intro f b;apply VC<;>intro g
   ·apply VE;intro i;have r:tj (jW v2 v8 v16 a) .normal (jW v2 v8 (v16++([a])) (inc a)):=RP [.b true,.row ([tB true]),.rows ((v16++([a])).map etI)] (AC c<|AC (p:=0≤a∧a<((v8.map etB).length:Int)) (DX b)<|AC (p:=(v8.map etB)[0+a.toNat]?=some ([tB true])) ((wZ b).trans (Wy some (show [tB f]=[tB true] by rw[g])))<|AAp etI (fun _=>rfl) i<|AN);exact(e (v16++([a])) (inc a)).mono fun y d=>by cases y<;>exact VA r d
   ·have r:tj (jW v2 v8 v16 a) .normal (jW v2 v8 v16 (inc a)):=RP [.b true,.row ([tB false])] (AC c<|AC (p:=0≤a∧a<((v8.map etB).length:Int)) (DX b)<|AC (p:=(v8.map etB)[0+a.toNat]?=some ([tB false])) ((wZ b).trans (Wy some (show [tB f]=[tB false] by rw[g])))<|AN);exact(e v16 (inc a)).mono fun y d=>by cases y<;>exact VA r d
  ·exact Vz (VB (show tj (jW v2 v8 v16 a) (.exit 4) (qL v16)from RP [.b false] (AC c<|AN)) (by intro h;cases h))
inductive zg where|x2 (v8:List Bool)
def oR (v1 v2:Int)(v8:List Bool)(v9:List Y9)(v10 a b c:Int):US:=stL 70 [(1,V2 v1),(2,V2 v2),(8,.one (V7 1 (v8.map etB))),(9,.one (V7 1 (v9.map etS))),(10,V2 v10),(12,V2 a),(13,V2 b),(15,V2 c)]
def qK (v1 v2:Int)(v9:List Y9)(v10:Int)(a:List Bool):US:=stL 70 [(1,V2 v1),(2,V2 v2),(8,.one (V7 1 (a.map etB))),(9,.one (V7 1 (v9.map etS))),(10,V2 v10)]
abbrev zd:US→Exit→US→Prop:=Round E 108 (an Tryz.f108 1)
def In (v1 v2:Int)(v8:List Bool)(v9:List Y9)(v10 a b c:Int):zg→Prop| .x2 d=>Loops E 108 (an Tryz.f108 1) (oR v1 v2 v8 v9 v10 a b c) (.exit 2) (qK v1 v2 v9 v10 d)
noncomputable def jX (b c:Int):Nat→(List Bool)→Int→Option zg| 0,_,_=>none|n+1,v8,a=>cond (decide (a≤b)) ((ak v8 a).bind fun d=>jX b c n (v8.set a.toNat true) (IntKind.wrap .i64 (a+c))) (some (.x2 v8))
theorem Ik (v1 v2:Int)(v9:List Y9)(v10 c b:Int)(n:Nat):∀(v8:List Bool)(a:Int),Ans (jX c b n v8 a) (In v1 v2 v8 v9 v10 c b a):=by
 induction n with
 |zero=>intros;exact Ans.none
 |succ n f =>
  intro v8 a;unfold jX;apply VC<;>intro d
  ·apply VD;intro e g;have r:zd (oR v1 v2 v8 v9 v10 c b a) .normal (oR v1 v2 (v8.set a.toNat true) v9 v10 c b (IntKind.wrap .i64 (a+b))):=RP [.b true,.row (etB e),.rows ((v8.set a.toNat true).map etB)] (AC d<|AG etB g<|AC (p:=(v8.map etB).set (0+a.toNat) (aD (etB e) 0 [tB true])=(v8.set a.toNat true).map etB) (ik (by rfl))<|AN);exact(f (v8.set a.toNat true) (IntKind.wrap .i64 (a+b))).mono fun y i=>by cases y<;>exact VA r i
  ·exact Vz (VB (show zd (oR v1 v2 v8 v9 v10 c b a) (.exit 2) (qK v1 v2 v9 v10 v8)from RP [.b false] (AC d<|AN)) (by intro h;cases h))
inductive zf where|ret (v6:List Int) (v7:Bool)|x0 (v8:List Bool)
def jV (v1 v2:Int)(v8:List Bool)(v9:List Y9)(v10:Int):US:=stL 70 [(1,V2 v1),(2,V2 v2),(8,.one (V7 1 (v8.map etB))),(9,.one (V7 1 (v9.map etS))),(10,V2 v10)]
def pf (a:List Int)(b:Bool):US:=stL 70 [(6,.one (V7 1 (a.map etI))),(7,V3 b)]
def qJ (v1 v2:Int)(a:List Bool):US:=stL 70 [(1,V2 v1),(2,V2 v2),(8,.one (V7 1 (a.map etB)))]
abbrev th:US→Exit→US→Prop:=Round E 108 (an Tryz.f108 0)
def Im (v1 v2:Int)(v8:List Bool)(v9:List Y9)(v10:Int):zf→Prop| .ret a b=>Loops E 108 (an Tryz.f108 0) (jV v1 v2 v8 v9 v10) .ret (pf a b)| .x0 c=>Loops E 108 (an Tryz.f108 0) (jV v1 v2 v8 v9 v10) (.exit 0) (qJ v1 v2 c)
noncomputable def fv (v1 v2:Int):List Y9→Nat→(List Bool)→Option zf
 |[],i,v8=>some (.x0 v8)
 |hd::rest,i,v8=>if hd.size≤2000000 then cond ((dF hd v1 v2).2.2.2)
  ((jX ((dF hd v1 v2).2.1) ((dF hd v1 v2).2.2.1) 9223372036854775808 v8 ((dF hd v1 v2).1)).bind fun y=>match y with
   | .x2 a=>(fv v1 v2 rest (i+1) a))
  (some (.ret ([]) false))else none
theorem Ij (v1 v2:Int)(v9:List Y9)(rest:List Y9):∀(i:Nat)(v8:List Bool),(v9).drop i=rest→v9.length≤9223372036854775807→Ans (fv v1 v2 rest i v8) (Im v1 v2 v8 v9 (i:Int)):=by
 induction rest with
 |nil =>intro i v8 b d;have hb:=aK b;unfold fv;exact Vz (VB (show th (jV v1 v2 v8 v9 (i:Int)) (.exit 0) (qJ v1 v2 v8)from RP [V5 (v9.length:Int),.b false] (ALn v9 etS<|AC hb<|AN)) (by intro h;cases h))
 |cons hd rest k =>
  intro i v8 b d;have hb:=aF b;have l:=aG b d;have e:=au b;have f:=aE b;unfold fv;apply VE;intro g;apply VC<;>intro j
  ·apply VD;intro y c;replace c:=Ik v1 v2 v9 (i:Int) ((dF hd v1 v2).2.1) ((dF hd v1 v2).2.2.1) 9223372036854775808 v8 ((dF hd v1 v2).1) y c;cases y with
   |x2 a =>have m:=c;exact(k (i+1) a e d).mono fun y c=>by have r:th (jV v1 v2 v8 v9 (i:Int)) .normal (jV v1 v2 a v9 (inc (i:Int))):=RP [V5 (v9.length:Int),.b true,.row (etS hd),.ret [VX ((dF hd v1 v2).1),VX ((dF hd v1 v2).2.1),VX ((dF hd v1 v2).2.2.1),VY true],.lp (.exit 2) (qK v1 v2 v9 (i:Int) a)] (ALn v9 etS<|AC hb<|AG etS f<|AD (wJ hd v1 v2 g j)<|AL m<|AN);rw[l]at r;cases y<;>exact VA r c
  ·exact Vz (VB (show th (jV v1 v2 v8 v9 (i:Int)) .ret (pf ([]) false)from RP [V5 (v9.length:Int),.b true,.row (etS hd),.ret [VX ((dF hd v1 v2).1),VX ((dF hd v1 v2).2.1),VX ((dF hd v1 v2).2.2.1),VY false]] (ALn v9 etS<|AC hb<|AG etS f<|AD (wJ hd v1 v2 g j)<|AN)) (by intro h;cases h))
noncomputable def jH (f:Y9)(g a:Int):Option ((List Int)×Bool):=
  if 0≤(inc a)∧(inc a)≤(inc a)∧((1:Nat):Int)*(inc a)≤281474976710656∧(inc a)≤4611686018427387904 then if f.size≤2000000 then if 0≤(44:Int)∧(44:Int)<256 then if(am f 44).length≤9223372036854775807 then(fv g a (am f 44) 0 (List.replicate (inc a).toNat false)).bind fun y=>match y with
   | .ret c d=>(some (c,d))
   | .x0 e=>((gz a e 9223372036854775808 ([]) g).bind fun y=>match y with
    | .x4 b=>(some (b,true)))else none else none else none else none
theorem La (x0:Y9)(e a:Int):Ans (jH x0 e a) (fun r=>Does E 108 [V4 x0,V2 e,V2 a] [(false,[V7 1 (r.1.map etI)]),VY r.2]):=by
 unfold jH;apply VE;intro j;apply VE;intro k;apply VE;intro l;apply VE;intro h;apply VD;intro y b;replace b:=Ij e a (am x0 44) (am x0 44) 0 (List.replicate (inc a).toNat false) rfl h y b;cases y with
 |ret f g =>have i:=b;exact Vz (DP Tryz.f108 [.rows ((List.replicate (inc a).toNat false).map etB),.ret [(false,[V7 1 ((am x0 44).map etS)])],.lp .ret (pf f g)] (AC j<|AC (p:=List.replicate (inc a).toNat [tB false]=(List.replicate (inc a).toNat false).map etB) (ov rfl)<|AD (bg x0 44 k l)<|AL i<|AN))
 |x0 c =>
  have i:=b;apply VD;intro y b;replace b:=Il a c 9223372036854775808 ([]) e y b;cases y with
  |x4 d =>have m:=b;exact Vz (DP Tryz.f108 [.rows ((List.replicate (inc a).toNat false).map etB),.ret [(false,[V7 1 ((am x0 44).map etS)])],.lp (.exit 0) (qJ e a c),.lp (.exit 4) (qL d)] (AC j<|AC (p:=List.replicate (inc a).toNat [tB false]=(List.replicate (inc a).toNat false).map etB) (ov rfl)<|AD (bg x0 44 k l)<|AL i<|AL m<|AN))
inductive vy where|x2 (v8:List Int)
def mo (v6 v7:Int)(v8:List Int)(a b c:Int)(v22:List Y9)(d v24:Int):US:=stL 56 [(6,V2 v6),(7,V2 v7),(8,.one (V7 1 (v8.map etI))),(12,V2 a),(13,V2 b),(15,V2 c),(22,.one (V7 1 (v22.map etS))),(23,V2 d),(24,V2 v24)]
def nV (v6 v7:Int)(v22:List Y9)(a v24:Int)(b:List Int):US:=stL 56 [(6,V2 v6),(7,V2 v7),(8,.one (V7 1 (b.map etI))),(22,.one (V7 1 (v22.map etS))),(23,V2 a),(24,V2 v24)]
abbrev vw:US→Exit→US→Prop:=Round E 127 (an Tryz.f127 1)
def Eg (v6 v7:Int)(v8:List Int)(b c d:Int)(v22:List Y9)(a v24:Int):vy→Prop| .x2 e=>Loops E 127 (an Tryz.f127 1) (mo v6 v7 v8 b c d v22 a v24) (.exit 2) (nV v6 v7 v22 a v24 e)
noncomputable def ix (b c:Int):Nat→(List Int)→Int→Option vy| 0,_,_=>none|n+1,v8,a=>cond (decide (a≤b)) (if(v8.length+([a]).length)*8≤140737488355328∧v8.length+([a]).length≤4611686018427387904 then ix b c n (v8++([a])) (IntKind.wrap .i64 (a+c))else none) (some (.x2 v8))
theorem Ee (v6 v7 c b:Int)(v22:List Y9)(d v24:Int)(n:Nat):∀(v8:List Int)(a:Int),Ans (ix c b n v8 a) (Eg v6 v7 v8 c b a v22 d v24):=by
 induction n with
 |zero=>intros;exact Ans.none
 |succ n f =>
  intro v8 a;unfold ix;apply VC<;>intro e
  ·apply VE;intro g;have r:vw (mo v6 v7 v8 c b a v22 d v24) .normal (mo v6 v7 (v8++([a])) c b (IntKind.wrap .i64 (a+b)) v22 d v24):=RP [.b true,.rows ((v8++([a])).map etI)] (AC e<|AAp etI (fun _=>rfl) g<|AN);exact(f (v8++([a])) (IntKind.wrap .i64 (a+b))).mono fun y i=>by cases y<;>exact VA r i
  ·exact Vz (VB (show vw (mo v6 v7 v8 c b a v22 d v24) (.exit 2) (nV v6 v7 v22 d v24 v8)from RP [.b false] (AC e<|AN)) (by intro h;cases h))
inductive vx where|ret (v4:List Int) (v5:Bool)|x0 (v8:List Int)
def iw (v6 v7:Int)(v8:List Int)(v22:List Y9)(a v24:Int):US:=stL 56 [(6,V2 v6),(7,V2 v7),(8,.one (V7 1 (v8.map etI))),(22,.one (V7 1 (v22.map etS))),(23,V2 a),(24,V2 v24)]
def mL (a:List Int)(b:Bool):US:=stL 56 [(4,.one (V7 1 (a.map etI))),(5,V3 b)]
def nU (a:List Int):US:=stL 56 [(8,.one (V7 1 (a.map etI)))]
abbrev qe:US→Exit→US→Prop:=Round E 127 (an Tryz.f127 0)
def Ef (v6 v7:Int)(v8:List Int)(v22:List Y9)(a v24:Int):vx→Prop| .ret b c=>Loops E 127 (an Tryz.f127 0) (iw v6 v7 v8 v22 a v24) .ret (mL b c)| .x0 d=>Loops E 127 (an Tryz.f127 0) (iw v6 v7 v8 v22 a v24) (.exit 0) (nU d)
noncomputable def dW (v6 v7:Int):List Y9→Nat→(List Int)→Option vx
 |[],i,v8=>some (.x0 v8)
 |hd::rest,i,v8=>if hd.size≤2000000 then cond ((dE hd v6 v7).2.2.2)
  ((ix ((dE hd v6 v7).2.1) ((dE hd v6 v7).2.2.1) 9223372036854775808 v8 ((dE hd v6 v7).1)).bind fun y=>match y with
   | .x2 a=>(dW v6 v7 rest (i+1) a))
  (some (.ret ([]) false))else none
theorem Ed (v6 v7:Int)(v22:List Y9)(rest:List Y9):∀(i:Nat)(v8:List Int),(v22).drop i=rest→v22.length≤9223372036854775807→Ans (dW v6 v7 rest i v8) (Ef v6 v7 v8 v22 (v22.length:Int) (i:Int)):=by
 induction rest with
 |nil =>intro i v8 b d;have hb:=aK b;unfold dW;exact Vz (VB (show qe (iw v6 v7 v8 v22 (v22.length:Int) (i:Int)) (.exit 0) (nU v8)from RP [.b false] (AC hb<|AN)) (by intro h;cases h))
 |cons hd rest k =>
  intro i v8 b d;have hb:=aF b;have l:=aG b d;have e:=au b;have f:=aE b;unfold dW;apply VE;intro g;apply VC<;>intro j
  ·apply VD;intro y c;replace c:=Ee v6 v7 ((dE hd v6 v7).2.1) ((dE hd v6 v7).2.2.1) v22 (v22.length:Int) (i:Int) 9223372036854775808 v8 ((dE hd v6 v7).1) y c;cases y with
   |x2 a =>have m:=c;exact(k (i+1) a e d).mono fun y c=>by have r:qe (iw v6 v7 v8 v22 (v22.length:Int) (i:Int)) .normal (iw v6 v7 a v22 (v22.length:Int) (inc (i:Int))):=RP [.b true,.row (etS hd),.ret [VX ((dE hd v6 v7).1),VX ((dE hd v6 v7).2.1),VX ((dE hd v6 v7).2.2.1),VY true],.lp (.exit 2) (nV v6 v7 v22 (v22.length:Int) (i:Int) a)] (AC hb<|AG etS f<|AD (yE hd v6 v7 g j)<|AL m<|AN);rw[l]at r;cases y<;>exact VA r c
  ·exact Vz (VB (show qe (iw v6 v7 v8 v22 (v22.length:Int) (i:Int)) .ret (mL ([]) false)from RP [.b true,.row (etS hd),.ret [VX ((dE hd v6 v7).1),VX ((dE hd v6 v7).2.1),VX ((dE hd v6 v7).2.2.1),VY false]] (AC hb<|AG etS f<|AD (yE hd v6 v7 g j)<|AN)) (by intro h;cases h))
noncomputable def jk (d:Y9)(e:Int):Option ((List Int)×Bool):=
  if d.size<4294967281 then if 1≤(⟨#[44]⟩:Y9).size then if(eS d (⟨#[44]⟩:Y9)).length≤9223372036854775807 then(dW ((aM e).1) ((aM e).2) (eS d (⟨#[44]⟩:Y9)) 0 ([])).bind fun y=>match y with
   | .ret b c=>(some (b,c))
   | .x0 a=>(if a.length<4611686018427387904 then if(eO a).length≤9223372036854775807 then some (id (ks (eO a)),true)else none else none)else none else none else none
theorem Fu (x0:Y9)(b:Int):Ans (jk x0 b) (fun r=>Does E 127 [V4 x0,V2 b] [(false,[V7 1 (r.1.map etI)]),VY r.2]):=by
 unfold jk;apply VE;intro h;apply VE;intro i;apply VE;intro f;apply VD;intro y e;replace e:=Ed ((aM b).1) ((aM b).2) (eS x0 (⟨#[44]⟩:Y9)) (eS x0 (⟨#[44]⟩:Y9)) 0 ([]) rfl f y e;cases y with
 |ret c d =>have g:=e;exact Vz (DP Tryz.f127 [.ret [VX ((aM b).1),VX ((aM b).2)],.ret [(false,[V7 1 ((eS x0 (⟨#[44]⟩:Y9)).map etS)])],V5 ((eS x0 (⟨#[44]⟩:Y9)).length:Int),.lp .ret (mL c d)] (AD (cy b)<|AD (mh x0 (⟨#[44]⟩:Y9) h i)<|ALn (eS x0 (⟨#[44]⟩:Y9)) etS<|AL g<|AN))
 |x0 a =>have g:=e;apply VE;intro j;apply VE;intro l;exact Vz (DP Tryz.f127 [.ret [VX ((aM b).1),VX ((aM b).2)],.ret [(false,[V7 1 ((eS x0 (⟨#[44]⟩:Y9)).map etS)])],V5 ((eS x0 (⟨#[44]⟩:Y9)).length:Int),.lp (.exit 0) (nU a),.ret [(false,[V7 1 ((eO a).map etI)])],.ret [(false,[.any]),(false,[V7 1 ((ks (eO a)).map etI)])],.ret [(false,[.any]),(false,[V7 1 ((id (ks (eO a))).map etI)])]] (AD (cy b)<|AD (mh x0 (⟨#[44]⟩:Y9) h i)<|ALn (eS x0 (⟨#[44]⟩:Y9)) etS<|AL g<|AC (p:=(a.map etI).length=(a.map etI).length) rfl<|AV (ψ:=fun k=>E.C k 117 [.one (V7 1 (a.map etI))]=some [(false,[V7 1 ((eO a).map etI)])]) (tu a j)<|AV (ψ:=fun k=>E.C k 141 [.one (V7 1 ((eO a).map etI))]=some [(false,[.any]),(false,[V7 1 ((ks (eO a)).map etI)])]) (xG (eO a) l)<|AV (ψ:=fun k=>E.C k 140 [.one (V7 1 ((ks (eO a)).map etI))]=some [(false,[.any]),(false,[V7 1 ((id (ks (eO a))).map etI)])]) (BF (ks (eO a)))<|AN))
def Marks (lo hi:Int)(a:List Bool)(l:List Int):Prop :=(a.length:Int)=hi+1∧(∀x∈l,lo≤x∧x≤hi)∧∀j:Nat,(j:Int)≤hi→(a[j]?=some true↔(j:Int)∈l)
theorem Marks.add {lo hi:Int}{a:List Bool}{l:List Int}(h:Marks lo hi a l)(i:0≤lo){x:Int}(b:lo≤x∧x≤hi):Marks lo hi (a.set x.toNat true) (l++[x]):=by
 obtain⟨c,d,f⟩:=h;refine⟨by rw[YD];exact c,fun y hy=>?_,fun j g=>?_⟩
 ·rcases WF.1 hy with hy|hy
  ·exact d y hy
  ·rw[Wk]at hy;subst hy;exact b
 ·rw[WF,Wk,List.getElem?_set];by_cases e:x.toNat=j
  ·rw[Wa e,Wa (by omega)];exact⟨fun _=>.inr (by omega),fun _=>rfl⟩
  ·rw[Wo e,f j g];exact⟨.inl,fun h=>h.resolve_right (by omega)⟩
theorem KZ (lo hi b st:Int)(m:0≤lo)(f:hi≤59)(hb:b≤hi)(o:1≤st)(p:st≤1000000000):∀(k n:Nat)(a:Int)(c:List Bool)(l:List Int),(b-a+1).toNat≤k→k<n→lo≤a→a≤1000000100→Marks lo hi c l→l.length+k≤1000000000 →
  ∃d l',jX b st n c a=some (.x2 d)∧ix b st n l a=some (.x2 l')∧Marks lo hi d l'∧l'.length≤l.length+k∧(a≤b∨l≠[]→l'≠[])
 |k,0,a,c,l,_,r,_,_,_,_=>by omega
 |k,n+1,a,c,l,z,r,A,s,i,B=>by
  unfold jX ix;by_cases q:a≤b
  ·obtain⟨g,t,_⟩:=cA (l:=c) (k:=a) (by have:=i.1;omega);obtain⟨k,rfl⟩:∃j,k=j+1:=⟨k-1,by omega⟩
   have e:IntKind.wrap .i64 (a+st)=a+st:=du _ (by omega) (by omega);obtain⟨d,l',u,v,w,x,y⟩:=KZ lo hi b st m f hb o p k n (a+st) (c.set a.toNat true) (l++[a]) (by omega) (by omega) (by omega) (by omega) (i.add m (by omega)) (by simp;omega);refine⟨d,l',?_,?_,w,by simp at x;omega,fun _=>y (.inr (by simp))⟩
   ·rw[Wi q,Wn,t,V9,e];exact u
   ·rw[Wi q,Wn,Wa (by simp;omega),e];exact v
  ·rw[Wj q];exact⟨c,l,rfl,rfl,i,by omega,fun h=>h.resolve_left q⟩
theorem B2 (lo hi:Int)(s:0≤lo)(k:lo≤hi)(m:hi≤59):∀(f:List Y9)(i:Nat)(c:List Bool)(l:List Int),(∀p∈f,p.size≤2000000)→Marks lo hi c l→l.length+f.length*60≤1000000000 →
  (fv lo hi f i c=some (.ret [] false)∧dW lo hi f i l=some (.ret [] false)) ∨
  ∃d l',fv lo hi f i c=some (.x0 d)∧dW lo hi f i l=some (.x0 l')∧Marks lo hi d l'∧l'.length≤l.length+f.length*60∧(f≠[]∨l≠[]→l'≠[])
 |[],i,c,l,_,o,_=>.inr ⟨c,l,rfl,rfl,o,by simp,fun h=>h.resolve_left fun h=>h rfl⟩
 |p::f,i,c,l,t,o,u=>by
  have q:=t p (by simp);obtain⟨-,g⟩:=G9 p lo hi q;obtain⟨-,j⟩:=G8 p lo hi q;unfold fv dW;simp only[Wa q];cases e:yn p lo hi with
  |none =>rw[e]at g j;have g:(dF p lo hi).2.2.2=false:=g;have j:(dE p lo hi).2.2.2=false:=j;rw[g,j];exact .inl ⟨rfl,rfl⟩
  |some x =>
   obtain⟨a,b,st⟩:=x;rw[e]at g j;have g:dF p lo hi=(a,b,st,true):=g;have j:dE p lo hi=(a,b,st,true):=j;obtain⟨v,a2,a3,a4,a5⟩:=SO k e;simp only[WL]at u;obtain⟨d,l',w,y,z,D,A⟩:=KZ lo hi b st s m a3 a4 a5 60 9223372036854775808 a c l (by omega) (by omega) v (by omega) o (by omega);rw[g,j];simp only[Wn,w,y,V9];rcases B2 lo hi s k m f (i+1) d l' (fun p r=>t p (by simp[r])) z (by omega)with h|⟨n,l2,g1,B,g3,g4,C⟩
   ·exact .inl h
   ·exact .inr ⟨n,l2,g1,B,g3,by rw[WL];omega,fun _=>C (.inr (A (.inl a2)))⟩
theorem PE (hi:Int)(c:List Bool)(hh:(c.length:Int)=hi+1)(d:hi≤59):∀(k n:Nat)(x:Int)(v:List Int),(hi-x+1).toNat≤k→k<n→0≤x→x≤100→v.length+k≤1000→v.Pairwise (· < ·)→(∀y∈v,y<x) →
  ∃w,gz hi c n v x=some (.x4 w)∧w.Pairwise (· < ·)∧∀y,y∈w↔y∈v∨(x≤y∧y≤hi∧c[y.toNat]?=some true)
 |k,0,x,v,_,u,_,_,_,_,_=>by omega
 |k,n+1,x,v,C,u,D,A,F,i,m=>by
  unfold gz;by_cases q:x≤hi
  ·obtain⟨g,t,_⟩:=cA (l:=c) (k:=x) (by omega);have f:=(ke t).2;obtain⟨k,rfl⟩:∃j,k=j+1:=⟨k-1,by omega⟩
   have e:inc x=x+1:=mN _ (by omega) (by omega);rw[Wi q,Wn,t,V9];cases g with
   |true =>
    obtain⟨w,o,p,r⟩:=PE hi c hh d k n (x+1) (v++[x]) (by omega) (by omega) (by omega) (by omega) (by simp;omega)
     (by rw[YI];exact⟨i,by simp,fun a B b hb=>by rw[Wk]at hb;subst hb;exact m a B⟩)
     (fun y s=>by rcases WF.1 s with h|h;have:=m y h;omega;rw[Wk]at h;omega)
    refine⟨w,by rw[Wn,Wa (by simp;omega),e];exact o,p,fun y=>?_⟩;rw[r,WF,Wk];constructor
    ·rintro((h|rfl)|h)
     ·exact .inl h
     ·exact .inr ⟨Xb _,q,f⟩
     ·exact .inr ⟨by omega,h.2⟩
    ·rintro(h|h)
     ·exact .inl (.inl h)
     ·by_cases z:y=x
      ·exact .inl (.inr z)
      ·exact .inr ⟨by omega,h.2⟩
   |false =>
    obtain⟨w,o,p,r⟩:=PE hi c hh d k n (x+1) v (by omega) (by omega) (by omega) (by omega) (by omega) i (fun y s=>by have:=m y s;omega);refine⟨w,by rw[Wu,e];exact o,p,fun y=>?_⟩;rw[r];constructor
    ·rintro(h|h)
     ·exact .inl h
     ·exact .inr ⟨by omega,h.2⟩
    ·rintro(h|h)
     ·exact .inl h
     ·by_cases z:y=x
      ·subst z;rw[f]at h;exact absurd h.2.2 (by simp)
      ·exact .inr ⟨by omega,h.2⟩
  ·rw[Wj q];exact⟨v,rfl,i,fun y=>⟨.inl,fun h=>h.resolve_right fun h=>by omega⟩⟩
theorem yt (lo hi:Int):∀(l:List Int)(a:Int),l.Pairwise (· < ·)→(∀x∈l,a≤x∧x≤hi)→a≤hi+1→(l.length:Int)≤hi+1-a
 |[],a,_,_,h=>by simp;omega
 |x::l,a,b,c,h=>by rw[YP]at b;have:=c x (by simp);have:=yt lo hi l (x+1) b.2 (fun y d=>⟨by have:=b.1 y d;omega,(c y (by simp[d])).2⟩) (by omega);simp;omega
noncomputable def ai (s:Y9)(lo hi:Int):List Int×Bool:=(jH s lo hi).getD ([],false)
noncomputable def aW (s:Y9)(i:Int):List Int×Bool:=ai s (aM i).1 (aM i).2
def Qd (lo hi:Int)(r:List Int×Bool):Prop:=(r.2=false∧r.1=[])∨(r.2=true∧r.1.Pairwise (· < ·)∧r.1≠[]∧(∀x∈r.1,lo≤x∧x≤hi)∧r.1.length≤60)
theorem CU (s:Y9)(lo hi:Int)(hs:s.size≤2000000)(hb:0≤lo∧lo≤hi∧hi≤59):jH s lo hi=some (ai s lo hi)∧Qd lo hi (ai s lo hi)∧∀i,aM i=(lo,hi)→jk s i=some (ai s lo hi):=by
 obtain⟨M,C,f⟩:=hb;have g:inc hi=hi+1:=mN _ (by omega) (by omega);have S:=CR 44 (tx s);rw[←dQ]at S;have B:am s 44=(cd 44 (tx s)).map ofTx:=rfl;have N:(am s 44).length≤2000001:=by rw[B,WH];omega
 have D:∀p∈am s 44,p.size≤2000000:=fun p O=>by rw[B]at O;obtain⟨x,k,rfl⟩:=Wx.1 O;have:=CS _ _ x k;rw[sC];rw[←dQ]at this;omega
 have U:Marks lo hi (List.replicate (inc hi).toNat false) []:=by refine⟨by rw[List.length_replicate,g];omega,fun x k=>(by cases k),fun j hj=>?_⟩;rw[Yr,Wa (by omega)];simp
 have F:am s 44≠[]:=by obtain⟨x,xs,e⟩:=jQ 44 (tx s);rw[B,e];simp
 have hc:((0:Int)≤44∧(44:Int)<256)=True:=Yb (by decide);have pre:(s.size≤2000000)=True:=Yb hs;have P:∀i,aM i=(lo,hi)→∀r,(dW lo hi (am s 44) 0 []).bind (fun y=>match y with
   | .ret m n=>(some (m,n))
   | .x0 a=>(if a.length<4611686018427387904 then if(eO a).length≤9223372036854775807 then some (id (ks (eO a)),true)else none else none))=some r→jk s i=some r:=fun i hi r V=>by
  unfold jk;rw[Wa (by omega),Wa (by decide),EX, ←B,Wa (by omega),hi];exact V
 have d:jH s lo hi=(fv lo hi (am s 44) 0 (List.replicate (inc hi).toNat false)).bind fun y=>match y with
   | .ret o u=>(some (o,u))
   | .x0 a=>((gz hi a 9223372036854775808 ([]) lo).bind fun y=>match y with
    | .x4 c=>(some (c,true))):=by
  unfold jH;simp only[hc,pre,WN];rw[Wa (by omega),Wa (by omega)]
 rcases B2 lo hi M C f (am s 44) 0 _ [] D U (by simp;omega)with⟨G,H⟩|⟨I,l,G,H,v,Q,W⟩
 ·rw[G]at d;have A:jH s lo hi=some ([],false):=d;have e:ai s lo hi=([],false):=by unfold ai;rw[A];rfl
  rw[e];exact⟨A,.inl ⟨rfl,rfl⟩,fun i hi=>P i hi _ (by rw[H];rfl)⟩
 ·obtain⟨w,X,J,Y⟩:=PE hi I v.1 f 60 9223372036854775808 lo [] (by omega) (by omega) M (by omega) (by simp) (by simp) (fun y Z=>by cases Z);have K:∀y,y∈w↔y∈l:=fun y=>by
   rw[Y];constructor
   ·rintro(h|⟨a1,a2,a3⟩)
    ·cases h
    ·have:=(v.2.2 y.toNat (by omega)).1 a3
     rwa [show((y.toNat:Nat):Int)=y by omega]at this
   ·intro h;have b:=v.2.1 y h;refine .inr ⟨b.1,b.2,(v.2.2 y.toNat (by omega)).2 ?_⟩
    rwa [show((y.toNat:Nat):Int)=y by omega]
  obtain⟨c1,c2⟩:=Lw l;have e3:ks (eO l)=w:=Bm c1 J fun y=>(c2 y).trans (K y).symm
  rw[G,V9]at d;simp only[X,V9]at d;have e:ai s lo hi=(w,true):=by unfold ai;rw[d];rfl
  rw[e];have R:∀x∈w,lo≤x∧x≤hi:=fun x k=>v.2.1 x ((K x).1 k)
  have wl:=yt lo hi w lo J R (by omega);refine⟨d,.inr ⟨rfl,J,fun z=>?_,R,by show w.length≤60;omega⟩,fun i hi=>P i hi _ ?_⟩
  ·have L:=W (.inl F);cases q:l with
   |nil=>exact L q
   |cons x t=>have:=(K x).2 (by rw[q];simp);rw[show w=[]from z]at this;cases this
  ·rw[H,V9];simp only;have sl:(eO l).length=l.length:=List.length_mergeSort l;rw[sl,Wa (by simp at Q;omega),Wa (by simp at Q;omega),e3];rfl
theorem Ia (s:Y9)(i:Int)(hs:s.size≤2000000):jk s i=some (aW s i):=(CU s _ _ hs (Qn i)).2.2 i rfl
theorem fa (c:Y9)(a:Int)(b:Int)(h:c.size≤2000000)(hb:0≤a∧a≤b∧b≤59):Does E 108 [V4 c,V2 a,V2 b] [(false,[V7 1 (((ai c a b).1).map etI)]),VY ((ai c a b).2)]:=by exact La c a b _ (CU c a b h hb).1
theorem E9 (a:Y9)(b:Int)(h:a.size≤2000000):Does E 127 [V4 a,V2 b] [(false,[V7 1 (((aW a b).1).map etI)]),VY ((aW a b).2)]:=by exact Fu a b _ (Ia a b h)
theorem cM (a:Y9)(b:Int)(h:a.size≤2000000){d:Bool}(c:(aW a b).2=d):Does E 127 [V4 a,V2 b] [(false,[V7 1 (((aW a b).1).map etI)]),VY d]:=by rw[←c];exact E9 a b h
end
end Go.Proofs.YtjikhkndmohepaaGreatDoor.Am
