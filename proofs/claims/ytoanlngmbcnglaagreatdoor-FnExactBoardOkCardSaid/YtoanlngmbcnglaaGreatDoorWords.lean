/- Numbers in words. -/
import Derived.Test.YtoanlngmbcnglaaGreatDoorEnv
import Derived.Test.YtoanlngmbcnglaaGreatDoorShelf
namespace Go.Proofs.YtoanlngmbcnglaaGreatDoor.Am
open Go
set_option linter.unusedVariables false
set_option linter.unusedSimpArgs false
section
open Go.Proofs Classical
set_option maxRecDepth 100000
structure GCron where
 f0:List Int
 f1:List Int
 f2:List Int
 f3:List Int
 f4:List Int
def GCron.t (k:Kd)(x:GCron):List (T Unit):=[.s k () 1 (x.f0.map etI),.s k () 1 (x.f1.map etI),.s k () 1 (x.f2.map etI),.s k () 1 (x.f3.map etI),.s k () 1 (x.f4.map etI)]
instance:ac GCron:=⟨fun x=>ac.sm x.f0∧ac.sm x.f1∧ac.sm x.f2∧ac.sm x.f3∧ac.sm x.f4⟩
instance:Wf GCron:=⟨fun x=>Wf.wf x.f0∧Wf.wf x.f1∧Wf.wf x.f2∧Wf.wf x.f3∧Wf.wf x.f4⟩
structure GSession where
 f0:Int
 f1:Int
 f2:ByteArray
def GSession.t (x:GSession):List (T Unit):=[tI x.f0,tI x.f1,tS x.f2]
instance:ac GSession:=⟨fun x=>ac.sm x.f2⟩
instance:Wf GSession:=⟨fun x=>Wf.wf x.f2⟩
structure GTask where
 f0:ByteArray
 f1:ByteArray
 f2:Int
 f3:Bool
 f4:List ByteArray
def GTask.t (k:Kd)(x:GTask):List (T Unit):=[tS x.f0,tS x.f1,tI x.f2,tB x.f3,.s k () 1 (x.f4.map etS)]
instance:ac GTask:=⟨fun x=>ac.sm x.f0∧ac.sm x.f1∧ac.sm x.f4⟩
instance:Wf GTask:=⟨fun x=>Wf.wf x.f0∧Wf.wf x.f1∧Wf.wf x.f4⟩
structure GDag where
 f0:ByteArray
 f1:ByteArray
 f2:Int
 f3:Int
 f4:Bool
 f5:List GTask
def GDag.t (k q:Kd)(x:GDag):List (T Unit):=[tS x.f0,tS x.f1,tI x.f2,tI x.f3,tB x.f4,.s k () 5 (x.f5.map (GTask.t q))]
instance:ac GDag:=⟨fun x=>ac.sm x.f0∧ac.sm x.f1∧ac.sm x.f5⟩
instance:Wf GDag:=⟨fun x=>Wf.wf x.f0∧Wf.wf x.f1∧Wf.wf x.f5⟩
structure GPlan where
 f0:GDag
 f1:Bool
 f2:Int
 f3:Int
def GPlan.t (k q:Kd)(x:GPlan):List (T Unit):=GDag.t k q x.f0++[tB x.f1]++[tI x.f2]++[tI x.f3]
instance:ac GPlan:=⟨fun x=>ac.sm x.f0⟩
instance:Wf GPlan:=⟨fun x=>Wf.wf x.f0⟩
structure GSpan where
 f0:Int
 f1:Int
def GSpan.t (x:GSpan):List (T Unit):=[tI x.f0,tI x.f1]
instance:ac GSpan:=⟨fun x=>True⟩
instance:Wf GSpan:=⟨fun x=>True⟩
structure GState where
 f0:Int
 f1:Int
 f2:Int
 f3:Int
def GState.t (x:GState):List (T Unit):=[tI x.f0,tI x.f1,tI x.f2,tI x.f3]
instance:ac GState:=⟨fun x=>True⟩
instance:Wf GState:=⟨fun x=>True⟩
structure GRun where
 f0:ByteArray
 f1:GSpan
 f2:Int
 f3:List GState
def GRun.t (k:Kd)(x:GRun):List (T Unit):=[tS x.f0]++GSpan.t x.f1++[tI x.f2]++[.s k () 4 (x.f3.map GState.t)]
instance:ac GRun:=⟨fun x=>ac.sm x.f0∧ac.sm x.f1∧ac.sm x.f3⟩
instance:Wf GRun:=⟨fun x=>Wf.wf x.f0∧Wf.wf x.f1∧Wf.wf x.f3⟩
structure GBoard where
 f0:List GSession
 f1:List GPlan
 f2:List GRun
 f3:Int
 f4:Int
def GBoard.t (k q:Kd)(x:GBoard):List (T Unit):=[.s k () 3 (x.f0.map GSession.t),.s k () 9 (x.f1.map (GPlan.t q q)),.s k () 5 (x.f2.map (GRun.t q)),tI x.f3,tI x.f4]
instance:ac GBoard:=⟨fun x=>ac.sm x.f0∧ac.sm x.f1∧ac.sm x.f2⟩
instance:Wf GBoard:=⟨fun x=>Wf.wf x.f0∧Wf.wf x.f1∧Wf.wf x.f2⟩
structure LDag where
 f0:ByteArray
 f1:ByteArray
 f2:Int
 f3:Int
 f4:Bool
 f5:List GTask
def LDag.t (k q:Kd)(x:LDag):List (T Unit):=[tS x.f0,tS x.f1,tI x.f2,tI x.f3,tB x.f4,.s k () 5 (x.f5.map (GTask.t q))]
instance:ac LDag:=⟨fun x=>ac.sm x.f0∧ac.sm x.f1∧ac.sm x.f5⟩
instance:Wf LDag:=⟨fun x=>Wf.wf x.f0∧Wf.wf x.f1∧Wf.wf x.f5⟩
structure LPlan where
 f0:LDag
 f1:Bool
 f2:Int
 f3:Int
def LPlan.t (k q:Kd)(x:LPlan):List (T Unit):=LDag.t k q x.f0++[tB x.f1]++[tI x.f2]++[tI x.f3]
instance:ac LPlan:=⟨fun x=>ac.sm x.f0⟩
instance:Wf LPlan:=⟨fun x=>Wf.wf x.f0⟩
structure LRun where
 f0:ByteArray
 f1:GSpan
 f2:Int
 f3:List GState
def LRun.t (k:Kd)(x:LRun):List (T Unit):=[tS x.f0]++GSpan.t x.f1++[tI x.f2]++[.s k () 4 (x.f3.map GState.t)]
instance:ac LRun:=⟨fun x=>ac.sm x.f0∧ac.sm x.f1∧ac.sm x.f3⟩
instance:Wf LRun:=⟨fun x=>Wf.wf x.f0∧Wf.wf x.f1∧Wf.wf x.f3⟩
structure LBoard where
 f0:List GSession
 f1:List LPlan
 f2:List LRun
 f3:Int
 f4:Int
def LBoard.t (k q:Kd)(x:LBoard):List (T Unit):=[.s k () 3 (x.f0.map GSession.t),.s k () 9 (x.f1.map (LPlan.t q q)),.s k () 5 (x.f2.map (LRun.t q)),tI x.f3,tI x.f4]
instance:ac LBoard:=⟨fun x=>ac.sm x.f0∧ac.sm x.f1∧ac.sm x.f2⟩
instance:Wf LBoard:=⟨fun x=>Wf.wf x.f0∧Wf.wf x.f1∧Wf.wf x.f2⟩
def ep (s a:ByteArray):List ByteArray:=Lib.splitB a 0 (Lib.countB s a) s
def ba (xs:List ByteArray)(a:ByteArray):ByteArray:=⟨(Lib.join (xs.map (·.data.toList)) a.data.toList).toArray⟩
def bv (n:Int):ByteArray:=⟨(Lib.itoa n).toArray⟩
def aL (s a:ByteArray):ByteArray×ByteArray×Bool:=(⟨(Lib.cut s.data.toList a.data.toList).1.toArray⟩,⟨(Lib.cut s.data.toList a.data.toList).2.1.toArray⟩,(Lib.cut s.data.toList a.data.toList).2.2)
def bZ (s p:ByteArray):ByteArray×Bool:=(⟨(Lib.trimPrefix s.data.toList p.data.toList).toArray⟩,Lib.hasPrefix s.data.toList p.data.toList)
noncomputable def eh (l:List Int):List Int:=l.mergeSort fun x y=>decide (x≤y)
noncomputable def jS (l:List Int):List Int:=Lib.compact l
theorem lE (x0 a:ByteArray)(b:x0.size<4294967281)(c:1≤a.size):Does E 124 [T7 x0,T7 a] [(false,[.s .own () 1 ((ep x0 a).map etS)])]:=by
 refine Does.orc ⟨0,fun k _ => ?_⟩;have o:∀C us,E.orc C 124 us=DO us:=fun _ _=>rfl
 refine(o _ _).trans ?_;show(if _ then _ else _)=_;rw[Ub ⟨b,c⟩];rfl
theorem eP (x0 a:ByteArray)(b:x0.size<4294967281):Does E 138 [T7 x0,T7 a] [T4 (aL x0 a).1,T4 (aL x0 a).2.1,T3 (aL x0 a).2.2]:=by
 refine Does.orc ⟨0,fun k _ => ?_⟩;have o:∀C us,E.orc C 138 us=M7 us:=fun _ _=>rfl
 refine(o _ _).trans ?_;show(if _ then _ else _)=_;rw[Ub b];rfl
theorem bP (x0 a:ByteArray)  : Does E 136 [T7 x0,T7 a] [T4 (bZ x0 a).1,T3 (bZ x0 a).2]:=by
 refine Does.orc ⟨0,fun k _ => ?_⟩;have o:∀C us,E.orc C 136 us=sH us:=fun _ _=>rfl
 refine(o _ _).trans ?_;rfl
theorem D8 (x0:Int)(h : -9223372036854775808≤x0∧x0≤9223372036854775807):Does E 130 [T5 x0] [T4 (bv x0)]:=by
 refine Does.orc ⟨0,fun k _ => ?_⟩;have o:∀C us,E.orc C 130 us=HF us:=fun _ _=>rfl
 refine(o _ _).trans ?_;show(if _ then _ else _)=_;rw[Ub h];rfl
theorem iM (x0:List ByteArray)(a:ByteArray)(h:x0.length≤140737488355328∧(ba x0 a).size≤140737488355328):Does E 117 [.one (.s .far () 1 (x0.map etS)),T7 a] [T4 (ba x0 a)]:=by
 refine Does.orc ⟨0,fun k _ => ?_⟩;have o:∀C us,E.orc C 117 us=HG us:=fun _ _=>rfl
 refine(o _ _).trans ?_;show(uh _).bind _=_;rw[DS,Ua,Ub ⟨h.1,h.2⟩];rfl
theorem sB (x0:List Int)(h:x0.length<4611686018427387904):Does E 127 [.one (.s .own () 1 (x0.map etI))] [(false,[.s .own () 1 ((eh x0).map etI)])]:=by
 refine Does.orc ⟨0,fun k _ => ?_⟩;have o:∀C us,E.orc C 127 us=HL us:=fun _ _=>rfl
 refine(o _ _).trans ?_;show(l9 _).bind _=_;rw[sO,Ua,Ub h];rfl
theorem wI (x0:List Int)(h:x0.length≤9223372036854775807):Does E 129 [.one (.s .own () 1 (x0.map etI))] [(false,[.any]),(false,[.s .own () 1 ((jS x0).map etI)])]:=by
 refine Does.orc ⟨0,fun k _ => ?_⟩;have o:∀C us,E.orc C 129 us=wO us:=fun _ _=>rfl
 refine(o _ _).trans ?_;show(l9 _).bind _=_;rw[sO,Ua,Ub h];rfl
theorem AF (x0:List Int)  : Does E 128 [.one (.s .own () 1 (x0.map etI))] [(false,[.any]),(false,[.s .own () 1 ((id x0).map etI)])]:=by
 refine Does.orc ⟨0,fun k _ => ?_⟩;have o:∀C us,E.orc C 128 us=HC us:=fun _ _=>rfl
 refine(o _ _).trans ?_;show(l9 _).bind _=_;rw[sO,Ua];rfl
def ae (x a b:Int):Bool:=decide (x≥a)&&decide (x≤b)
theorem gU {α:Type}{l:List α}{k:Int}(h:0≤k∧k<(l.length:Int)):∃x,ak l k=some x∧x∈l:=by unfold ak;rw[Ub h.1,Ug (by omega)];exact⟨_,rfl,VA _⟩
theorem Qb {α:Type}[ac α]:ac.sm ([]:List α):=⟨Wq _,fun y a=>by cases a⟩
noncomputable def Aa (x0 a x2:Int):Option (Bool):=cond (decide (x0≥a)) (some (decide (x0≤x2))) (some (false))
theorem P3 (x0 a x2:Int):Ans (Aa x0 a x2) (fun r=>Does E 13 [T5 x0,T5 a,T5 x2] [T3 r]):=by
 unfold Aa;apply TW<;>intro b
 ·exact TT (DP Tryz.f13 [.b true] (AC b<|AN))
 ·exact TT (DP Tryz.f13 [.b false] (AC b<|AN))
theorem ag (x0:Int)(a:Int)(x2:Int):Does E 13 [T5 x0,T5 a,T5 x2] [T3 (ae x0 a x2)]:=by exact P3 x0 a x2 _ (by unfold Aa ae;cases decide (x0≥a)<;>rfl)
noncomputable def vg (x0 a x2:Int):Option (Bool):=cond (decide (x0≥a)) (some (decide (x0≤x2))) (some (false))
theorem K9 (x0 a x2:Int):Ans (vg x0 a x2) (fun r=>Does E 43 [T5 x0,T5 a,T5 x2] [T3 r]):=by
 unfold vg;apply TW<;>intro b
 ·exact TT (DP Tryz.f43 [.b true] (AC b<|AN))
 ·exact TT (DP Tryz.f43 [.b false] (AC b<|AN))
theorem an (x0:Int)(a:Int)(x2:Int):Does E 43 [T5 x0,T5 a,T5 x2] [T3 (ae x0 a x2)]:=by exact K9 x0 a x2 _ (by unfold vg ae;cases decide (x0≥a)<;>rfl)
noncomputable def la (x0:Int):Option (Int):=cond (decide (x0<(10:Int))) (some (IntKind.wrap .u8 (IntKind.wrap .i64 ((48:Int)+x0)))) (some (IntKind.wrap .u8 (IntKind.wrap .i64 ((IntKind.wrap .i64 ((97:Int)+x0))-(10:Int)))))
theorem G6 (x0:Int):Ans (la x0) (fun r=>Does E 122 [T5 x0] [(false,[tY r])]):=by
 unfold la;apply TW<;>intro a
 ·exact TT (DP Tryz.f122 [.b true] (AC a<|AN))
 ·exact TT (DP Tryz.f122 [.b false] (AC a<|AN))
theorem Ru {x:Int}(a:0≤x)(b:x<256):IntKind.wrap .u8 x=x:=by simp only[IntKind.wrap,IntKind.bits,IntKind.signed];simp;omega
noncomputable def dh (x:Int):Int:=(la x).getD 0
theorem Ip (d:Nat)(h:d<10):dh (d:Int)=48+(d:Int):=by unfold dh la;rw[Uj (by omega),Uo,Wm,em _ (by omega) (by omega),Ru (by omega) (by omega)]
theorem xL (x0:Int):Does E 122 [T5 x0] [(false,[tY (dh x0)])]:=by exact G6 x0 _ (by unfold dh la;cases decide (x0<10)<;>rfl)
noncomputable def ve (x0:Int):Option (ByteArray):=if -9223372036854775808≤x0∧x0≤9223372036854775807 then some (bv x0)else none
theorem K1 (x0:Int):Ans (ve x0) (fun r=>Does E 116 [T5 x0] [T4 r]):=by unfold ve;refine TY (fun a => ?_);exact TT (DP Tryz.f116 [.ret [T4 (bv x0)]] (AD (D8 x0 a)<|AN))
theorem uY (x0:Int)(h : -9223372036854775808≤x0∧x0≤9223372036854775807):Does E 116 [T5 x0] [T4 (bv x0)]:=by exact K1 x0 _ (by unfold ve;rw[Ub h])
inductive z7 where|x0 (v4:ByteArray)
def kp (v0:Int)(v3:Bool)(v4:ByteArray):US:=stL 30 [(0,T5 v0),(3,T6 v3),(4,T7 v4)]
def mP (v3:Bool)(a:ByteArray):US:=stL 30 [(3,T6 v3),(4,T7 a)]
abbrev t7:US→Exit→US→Prop:=Round E 109 (am Tryz.f109 0)
def JS (v0:Int)(v3:Bool)(v4:ByteArray):z7→Prop| .x0 a=>Loops E 109 (am Tryz.f109 0) (kp v0 v3 v4) (.exit 0) (mP v3 a)
noncomputable def gI  : Nat→Int→Bool→ByteArray→Option z7| 0,_,_,_=>none|n+1,v0,v3,v4=>cond (v0 != 0) (cond (decide ((Int.tmod v0 (10:Int))<(0:Int))) (if(strOfNums ([dh (IntKind.wrap .i64 (0-(Int.tmod v0 10)))])).size+v4.size≤dj then gI n (IntKind.wrap .i64 (Int.tdiv v0 10)) v3 ((strOfNums ([dh (IntKind.wrap .i64 (0-(Int.tmod v0 10)))]))++v4)else none) (if(strOfNums ([dh (Int.tmod v0 10)])).size+v4.size≤dj then gI n (IntKind.wrap .i64 (Int.tdiv v0 10)) v3 ((strOfNums ([dh (Int.tmod v0 10)]))++v4)else none)) (some (.x0 v4))
theorem z6  (n:Nat):∀(v0:Int)(v3:Bool)(v4:ByteArray),Ans (gI n v0 v3 v4) (JS v0 v3 v4):=by
 induction n with
 |zero=>intros;exact Ans.none
 |succ n d =>
  intro v0 v3 v4;unfold gI;apply TW<;>intro a
  ·apply TW<;>intro e
   ·refine TY (fun b => ?_);have r:t7 (kp v0 v3 v4) .normal (kp (IntKind.wrap .i64 (Int.tdiv v0 10)) v3 ((strOfNums ([dh (IntKind.wrap .i64 (0-(Int.tmod v0 10)))]))++v4)):=RP [.b true,.no,.b true,.ret [(false,[tY (dh (IntKind.wrap .i64 (0-(Int.tmod v0 10))))])],.val (.string (strOfNums ([dh (IntKind.wrap .i64 (0-(Int.tmod v0 10)))]))),.val (.string ((strOfNums ([dh (IntKind.wrap .i64 (0-(Int.tmod v0 10)))]))++v4))] (AC a<|AC e<|AD (xL (IntKind.wrap .i64 (0-(Int.tmod v0 10))))<|AC (p:=(eo (((([dh (IntKind.wrap .i64 (0-(Int.tmod v0 10)))]).map etY).drop 0).take (([dh (IntKind.wrap .i64 (0-(Int.tmod v0 10)))]).map etY).length)).map strOfNums=some (strOfNums ([dh (IntKind.wrap .i64 (0-(Int.tmod v0 10)))]))) (by simp only[UT,UM];exact Qf)<|AC (jP (tab:=E.tab) (t:=9) b)<|AN);exact(d (IntKind.wrap .i64 (Int.tdiv v0 10)) v3 ((strOfNums ([dh (IntKind.wrap .i64 (0-(Int.tmod v0 10)))]))++v4)).mono fun y c=>by cases y<;>exact TU r c
   ·refine TY (fun b => ?_);have r:t7 (kp v0 v3 v4) .normal (kp (IntKind.wrap .i64 (Int.tdiv v0 10)) v3 ((strOfNums ([dh (Int.tmod v0 10)]))++v4)):=RP [.b true,.no,.b false,.ret [(false,[tY (dh (Int.tmod v0 10))])],.val (.string (strOfNums ([dh (Int.tmod v0 10)]))),.val (.string ((strOfNums ([dh (Int.tmod v0 10)]))++v4))] (AC a<|AC e<|AD (xL (Int.tmod v0 10))<|AC (p:=(eo (((([dh (Int.tmod v0 10)]).map etY).drop 0).take (([dh (Int.tmod v0 10)]).map etY).length)).map strOfNums=some (strOfNums ([dh (Int.tmod v0 10)]))) (by simp only[UT,UM];exact Qf)<|AC (jP (tab:=E.tab) (t:=9) b)<|AN);exact(d (IntKind.wrap .i64 (Int.tdiv v0 10)) v3 ((strOfNums ([dh (Int.tmod v0 10)]))++v4)).mono fun y c=>by cases y<;>exact TU r c
  ·exact TT (TV (show t7 (kp v0 v3 v4) (.exit 0) (mP v3 v4)from RP [.b false] (AC a<|AN)) (by intro h;cases h))
noncomputable def ri (x0:Int):Option (ByteArray):=
  cond (x0==(0:Int))
   (some ((⟨#[48]⟩:ByteArray)))
   (cond (decide (x0<(0:Int)))
    ((gI 9223372036854775808 x0 true ByteArray.empty).bind fun y=>match y with
     | .x0 a=>(if(⟨#[45]⟩:ByteArray).size+a.size≤dj then some ((⟨#[45]⟩:ByteArray)++a)else none))
    ((gI 9223372036854775808 x0 false ByteArray.empty).bind fun y=>match y with
     | .x0 a=>(some (a))))
theorem LN (x0:Int):Ans (ri x0) (fun r=>Does E 109 [T5 x0] [T4 r]):=by
 unfold ri;apply TW<;>intro c
 ·exact TT (DP Tryz.f109 [.b true] (AC c<|AN))
 ·apply TW<;>intro e
  ·refine TX (fun y b => ?_);replace b:=z6 9223372036854775808 x0 true ByteArray.empty y b;cases y with
   |x0 a =>have d:=b;refine TY (fun f => ?_);exact TT (DP Tryz.f109 [.b false,.b true,.lp (.exit 0) (mP true a),.val (.string ((⟨#[45]⟩:ByteArray)++a))] (AC c<|AC e<|AL d<|AC (jP (tab:=E.tab) (t:=9) f)<|AN))
  ·refine TX (fun y b => ?_);replace b:=z6 9223372036854775808 x0 false ByteArray.empty y b;cases y with
   |x0 a =>have d:=b;exact TT (DP Tryz.f109 [.b false,.b false,.lp (.exit 0) (mP false a)] (AC c<|AC e<|AL d<|AN))
theorem Do (d:Nat)(h:d<10):strOfNums [dh (d:Int)]=ofTx [UInt8.ofNat (48+d)]:=by
 rw[Ip d h];unfold strOfNums ofTx;have:(48+(d:Int)).toNat=48+d:=by omega
 simp[this]
def yU (u:Nat):List UInt8:=if u=0 then []else Lib.decDigits u
theorem OW (u:Nat)(h:0<u):yU u=yU (u/10)++[UInt8.ofNat (48+u % 10)]:=by unfold yU;rw[Un (by omega),KI u h]
theorem QC (u:Nat)(h:u<10 ^ 19):(yU u).length≤19:=by
 unfold yU;split
 ·simp
 ·exact wR 18 u h
theorem FK (b:Bool):∀(n:Nat)(v:Int)(s:List UInt8), -9223372036854775808≤v→v≤9223372036854775807→v.natAbs<10 ^ n→s.length+n≤100→∀m,n<m→gI m v b (ofTx s)=some (.x0 (ofTx (yU v.natAbs++s)))
 | 0,v,s,_,_,h,_,m,i=>by
  obtain⟨m,rfl⟩:∃k,m=k+1:=⟨m-1,by omega⟩
  have:v=0:=by simpa using h
  subst this;rfl
 |n+1,v,s,o,p,h,hs,m,i=>by
  obtain⟨m,rfl⟩:∃k,m=k+1:=⟨m-1,by omega⟩
  unfold gI;by_cases z:v=0
  ·subst z;rfl
  ·have hz:(v != 0)=true:=by simpa using z
   rw[hz,Uo];have a:0<v.natAbs:=by omega
   have hd:v.natAbs % 10<10:=Nat.mod_lt _ (by omega);have f:(Int.tdiv v 10).natAbs=v.natAbs/10:=by rw[Int.natAbs_tdiv];rfl
   have g:IntKind.wrap .i64 (Int.tdiv v 10)=Int.tdiv v 10:=em _ (by omega) (by omega);have j:(Int.tmod v 10).natAbs=v.natAbs % 10:=by rw[Int.natAbs_tmod];rfl
   have d:=FK b n (Int.tdiv v 10) ([UInt8.ofNat (48+v.natAbs % 10)]++s) (by omega) (by omega) (by rw[f];rw[Nat.pow_succ]at h;omega) (by simp;omega) m (by omega);rw[f, ←VU, ←OW _ a]at d;have sz:∀l:List UInt8,(ofTx l).size=l.length:=fun l=>dy _
   by_cases c:Int.tmod v 10<0
   ·have e:IntKind.wrap .i64 (0-Int.tmod v 10)=((v.natAbs % 10:Nat):Int):=by rw[em _ (by omega) (by omega)];omega
    rw[Uj c,Uo,e,Do _ hd,Ub (by rw[sz,sz];simp[dj];omega),g,qC];exact d
   ·have e:Int.tmod v 10=((v.natAbs % 10:Nat):Int):=by omega
    rw[Uk c,Uu,e,Do _ hd,Ub (by rw[sz,sz];simp[dj];omega),g,qC];exact d
theorem OV (x:Int)(h : -9223372036854775808≤x∧x≤9223372036854775807):ri x=some (bv x):=by
 unfold ri bv Lib.itoa;by_cases z:x=0
 ·subst z;show some _=some _;rw[Un (by omega),Lib.decDigits,dif_pos (by simp)];rfl
 ·have hz:(x==0)=false:=by simpa using z
  have hb:x.natAbs<10 ^ 19:=by have:(10:Nat) ^ 19=10000000000000000000:=rfl;omega
  have a:=fun b=>FK b 19 x [] h.1 h.2 hb (by simp) 9223372036854775808 (by omega)
  have d:ofTx []=ByteArray.empty:=rfl;rw[d]at a;have g:=QC _ hb;rw[hz,Uu,a,a];simp only[UF,Ua];have sz:∀l:List UInt8,(ofTx l).size=l.length:=fun l=>dy _
  have hd:yU x.natAbs=Lib.decDigits x.natAbs:=by unfold yU;rw[Un (by omega)]
  by_cases c:x<0
  ·have e:(⟨#[45]⟩:ByteArray)=ofTx [45]:=rfl;rw[Uj c,Uo,Ub c,e,Ub (by rw[sz,sz];simp[dj];omega),qC,hd];rfl
  ·have f:x.natAbs=x.toNat:=by omega
   rw[Uk c,Uu,Un c,hd,f];rfl
theorem qT (x0:Int)(h : -9223372036854775808≤x0∧x0≤9223372036854775807):Does E 109 [T5 x0] [T4 (bv x0)]:=by exact LN x0 _ (OV x0 h)
inductive z8 where|ret (v2:List ByteArray) (v3:Bool)|x0 (v4:List ByteArray)
def cn (v0:ByteArray)(v4:List ByteArray)(v5 v6:Int):US:=stL 62 [(0,T7 v0),(4,.one (.s .own () 1 (v4.map etS))),(5,T5 v5),(6,T5 v6)]
def lM (a:List ByteArray)(b:Bool):US:=stL 62 [(2,.one (.s .own () 1 (a.map etS))),(3,T6 b)]
def mQ (a:List ByteArray):US:=stL 62 [(4,.one (.s .own () 1 (a.map etS)))]
abbrev gJ:US→Exit→US→Prop:=Round E 83 (am Tryz.f83 0)
def JU (v0:ByteArray)(v4:List ByteArray)(v5 v6:Int):z8→Prop| .ret a b=>Loops E 83 (am Tryz.f83 0) (cn v0 v4 v5 v6) .ret (lM a b)| .x0 c=>Loops E 83 (am Tryz.f83 0) (cn v0 v4 v5 v6) (.exit 0) (mQ c)
noncomputable def dp (v0:ByteArray):Nat→(List ByteArray)→Int→Int→Option z8| 0,_,_,_=>none|n+1,v4,v5,v6=>cond (decide (v6≤(v0.size:Int))) (cond (decide (v6<(v0.size:Int))) (if 0≤v6∧v6<(v0.size:Int)then cond (decide ((iq v0 v6)<(32:Int))) (some (.ret ([]) false)) (cond (decide ((iq v0 v6)>(126:Int))) (some (.ret ([]) false)) (cond ((iq v0 v6) != 32) (dp v0 n v4 v5 (inc v6)) (cond (decide (v5<v6)) (if 0≤v5∧v5≤v6∧v6≤(v0.size:Int)then if(v4.length+([v0.extract v5.toNat v6.toNat]).length)*16≤140737488355328∧v4.length+([v0.extract v5.toNat v6.toNat]).length≤4611686018427387904 then dp v0 n (v4++([v0.extract v5.toNat v6.toNat])) (inc v6) (inc v6)else none else none) (dp v0 n v4 (inc v6) (inc v6)))))else none) (cond (decide (v5<v6)) (if 0≤v5∧v5≤v6∧v6≤(v0.size:Int)then if(v4.length+([v0.extract v5.toNat v6.toNat]).length)*16≤140737488355328∧v4.length+([v0.extract v5.toNat v6.toNat]).length≤4611686018427387904 then dp v0 n (v4++([v0.extract v5.toNat v6.toNat])) (inc v6) (inc v6)else none else none) (dp v0 n v4 (inc v6) (inc v6)))) (some (.x0 v4))
theorem JT (v0:ByteArray)(n:Nat):∀(v4:List ByteArray)(v5 v6:Int),Ans (dp v0 n v4 v5 v6) (JU v0 v4 v5 v6):=by
 induction n with
 |zero=>intros;exact Ans.none
 |succ n g =>
  intro v4 v5 v6;unfold dp;apply TW<;>intro d
  ·apply TW<;>intro b
   ·refine TY (fun a => ?_);apply TW<;>intro e
    ·exact TT (TV (show gJ (cn v0 v4 v5 v6) .ret (lM ([]) false)from RP [.b true,.b true,.b true] (AC d<|AC b<|AC a<|AC e<|AN)) (by intro h;cases h))
    ·apply TW<;>intro f
     ·exact TT (TV (show gJ (cn v0 v4 v5 v6) .ret (lM ([]) false)from RP [.b true,.b true,.b false,.b true] (AC d<|AC b<|AC a<|AC e<|AC a<|AC f<|AN)) (by intro h;cases h))
     ·apply TW<;>intro i
      ·have r:gJ (cn v0 v4 v5 v6) .normal (cn v0 v4 v5 (inc v6)):=RP [.b true,.b true,.b false,.b false,.b true,.b true] (AC d<|AC b<|AC a<|AC e<|AC a<|AC f<|AC b<|AC a<|AC i<|AN);exact(g v4 v5 (inc v6)).mono fun y c=>by cases y<;>exact TU r c
      ·apply TW<;>intro j
       ·refine TY (fun k => ?_);refine TY (fun l => ?_);have r:gJ (cn v0 v4 v5 v6) .normal (cn v0 (v4++([v0.extract v5.toNat v6.toNat])) (inc v6) (inc v6)):=RP [.b true,.b true,.b false,.b false,.b true,.b false,.b true,.rows ((v4++([v0.extract v5.toNat v6.toNat])).map etS)] (AC d<|AC b<|AC a<|AC e<|AC a<|AC f<|AC b<|AC a<|AC i<|AC j<|AC k<|AAp etS (fun _=>rfl) l<|AN);exact(g (v4++([v0.extract v5.toNat v6.toNat])) (inc v6) (inc v6)).mono fun y c=>by cases y<;>exact TU r c
       ·have r:gJ (cn v0 v4 v5 v6) .normal (cn v0 v4 (inc v6) (inc v6)):=RP [.b true,.b true,.b false,.b false,.b true,.b false,.b false] (AC d<|AC b<|AC a<|AC e<|AC a<|AC f<|AC b<|AC a<|AC i<|AC j<|AN);exact(g v4 (inc v6) (inc v6)).mono fun y c=>by cases y<;>exact TU r c
   ·apply TW<;>intro a
    ·refine TY (fun e => ?_);refine TY (fun f => ?_);have r:gJ (cn v0 v4 v5 v6) .normal (cn v0 (v4++([v0.extract v5.toNat v6.toNat])) (inc v6) (inc v6)):=RP [.b true,.b false,.b false,.b true,.rows ((v4++([v0.extract v5.toNat v6.toNat])).map etS)] (AC d<|AC b<|AC b<|AC a<|AC e<|AAp etS (fun _=>rfl) f<|AN);exact(g (v4++([v0.extract v5.toNat v6.toNat])) (inc v6) (inc v6)).mono fun y c=>by cases y<;>exact TU r c
    ·have r:gJ (cn v0 v4 v5 v6) .normal (cn v0 v4 (inc v6) (inc v6)):=RP [.b true,.b false,.b false,.b false] (AC d<|AC b<|AC b<|AC a<|AN);exact(g v4 (inc v6) (inc v6)).mono fun y c=>by cases y<;>exact TU r c
  ·exact TT (TV (show gJ (cn v0 v4 v5 v6) (.exit 0) (mQ v4)from RP [.b false] (AC d<|AN)) (by intro h;cases h))
noncomputable def rj (x0:ByteArray):Option ((List ByteArray)×Bool):=
  cond (decide ((x0.size:Int)>(600:Int)))
   (some (([]:List ByteArray),false))
   ((dp x0 9223372036854775808 ([]) 0 0).bind fun y=>match y with
    | .ret b c=>(some (b,c))
    | .x0 a=>(cond (decide ((a.length:Int)>(10:Int)))
     (some (([]:List ByteArray),false))
     (some (a,true))))
theorem LQ (x0:ByteArray):Ans (rj x0) (fun r=>Does E 83 [T7 x0] [(false,[.s .own () 1 (r.1.map etS)]),T3 r.2]):=by
 unfold rj;apply TW<;>intro d
 ·exact TT (DP Tryz.f83 [.b true] (AC d<|AN))
 ·refine TX (fun y e => ?_);replace e:=JT x0 9223372036854775808 ([]) 0 0 y e;cases y with
  |ret b c =>have f:=e;exact TT (DP Tryz.f83 [.b false,.lp .ret (lM b c)] (AC d<|AL f<|AN))
  |x0 a =>
   have f:=e;apply TW<;>intro g
   ·exact TT (DP Tryz.f83 [.b false,.lp (.exit 0) (mQ a),T8 (a.length:Int),.b true] (AC d<|AL f<|ALn a etS<|AC g<|AN))
   ·exact TT (DP Tryz.f83 [.b false,.lp (.exit 0) (mQ a),T8 (a.length:Int),.b false] (AC d<|AL f<|ALn a etS<|AC g<|AN))
inductive zj where|x2 (v5:List ByteArray)
def ke (v5 v28:List ByteArray)(a b:Int):US:=stL 45 [(5,.one (.s .own () 1 (v5.map etS))),(28,.one (.s .own () 1 (v28.map etS))),(29,T5 a),(30,T5 b)]
def mB (a:List ByteArray):US:=stL 45 [(5,.one (.s .own () 1 (a.map etS)))]
abbrev tH:US→Exit→US→Prop:=Round E 111 (am Tryz.f111 1)
def IH (v5 v28:List ByteArray)(a b:Int):zj→Prop| .x2 c=>Loops E 111 (am Tryz.f111 1) (ke v5 v28 a b) (.exit 2) (mB c)
noncomputable def fv  : List ByteArray→Nat→(List ByteArray)→Option zj|[],i,v5=>some (.x2 v5)|hd::rest,i,v5=>cond (!(hd.toList==ByteArray.empty.toList)) (if(v5.length+([hd]).length)*16≤140737488355328∧v5.length+([hd]).length≤4611686018427387904 then fv rest (i+1) (v5++([hd]))else none) (fv rest (i+1) v5)
theorem IF (v28:List ByteArray)(rest:List ByteArray):∀(i:Nat)(v5:List ByteArray),(v28).drop i=rest→v28.length≤9223372036854775807→Ans (fv rest i v5) (IH v5 v28 (v28.length:Int) (i:Int)):=by
 induction rest with
 |nil =>intro i v5 a c;have hb:=aI a;unfold fv;exact TT (TV (show tH (ke v5 v28 (v28.length:Int) (i:Int)) (.exit 2) (mB v5)from RP [.b false] (AC hb<|AN)) (by intro h;cases h))
 |cons hd rest e =>
  intro i v5 a c;have hb:=aC a;have f:=aD a c;have b:=aq a;have g:=aB a;unfold fv;apply TW<;>intro j
  ·refine TY (fun k => ?_);exact(e (i+1) (v5++([hd])) b c).mono fun y d=>by have r:tH (ke v5 v28 (v28.length:Int) (i:Int)) .normal (ke (v5++([hd])) v28 (v28.length:Int) (inc (i:Int))):=RP [.b true,.row (etS hd),.b true,.rows ((v5++([hd])).map etS)] (AC hb<|AG etS g<|AC j<|AAp etS (fun _=>rfl) k<|AN);rw[f]at r;cases y<;>exact TU r d
  ·exact(e (i+1) v5 b c).mono fun y d=>by have r:tH (ke v5 v28 (v28.length:Int) (i:Int)) .normal (ke v5 v28 (v28.length:Int) (inc (i:Int))):=RP [.b true,.row (etS hd),.b false] (AC hb<|AG etS g<|AC j<|AN);rw[f]at r;cases y<;>exact TU r d
inductive zi where|ret (v2:List ByteArray) (v3:Bool)|x0
def ja (v0:ByteArray)(v4:Int):US:=stL 45 [(0,T7 v0),(4,T5 v4)]
def lG (a:List ByteArray)(b:Bool):US:=stL 45 [(2,.one (.s .own () 1 (a.map etS))),(3,T6 b)]
def mA (v0:ByteArray):US:=stL 45 [(0,T7 v0)]
abbrev pn:US→Exit→US→Prop:=Round E 111 (am Tryz.f111 0)
def IG (v0:ByteArray)(v4:Int):zi→Prop| .ret a b=>Loops E 111 (am Tryz.f111 0) (ja v0 v4) .ret (lG a b)| .x0=>Loops E 111 (am Tryz.f111 0) (ja v0 v4) (.exit 0) (mA v0)
noncomputable def jb  : List Int→Nat→Option zi|[],i=>some (.x0)|hd::rest,i=>cond (decide (hd<(32:Int))) (some (.ret ([]) false)) (cond (decide (hd>(126:Int))) (some (.ret ([]) false)) (jb rest (i+1)))
theorem IE (v0:ByteArray)(rest:List Int):∀(i:Nat) ,(ch v0).drop i=rest→v0.size≤9223372036854775807→Ans (jb rest i) (IG v0 (i:Int)):=by
 induction rest with
 |nil =>intro i a c;have hb:=tD a;unfold jb;exact TT (TV (show pn (ja v0 (i:Int)) (.exit 0) (mA v0)from RP [.b false] (AC hb<|AN)) (by intro h;cases h))
 |cons hd rest g =>
  intro i a c;have hb:=rB a;have j:=rC a c;have d:=aq a;have b:=vW a;obtain rfl:=vV a;unfold jb;apply TW<;>intro e
  ·exact TT (TV (show pn (ja v0 (i:Int)) .ret (lG ([]) false)from RP [.b true,.b true] (AC hb<|AC b<|AC e<|AN)) (by intro h;cases h))
  ·apply TW<;>intro f
   ·exact TT (TV (show pn (ja v0 (i:Int)) .ret (lG ([]) false)from RP [.b true,.b false,.b true] (AC hb<|AC b<|AC e<|AC b<|AC f<|AN)) (by intro h;cases h))
   ·exact(g (i+1) d c).mono fun y k=>by have r:pn (ja v0 (i:Int)) .normal (ja v0 (inc (i:Int))):=RP [.b true,.b false,.b false] (AC hb<|AC b<|AC e<|AC b<|AC f<|AN);rw[j]at r;cases y<;>exact TU r k
noncomputable def qY (x0:ByteArray):Option ((List ByteArray)×Bool):=
  cond (decide ((x0.size:Int)>(600:Int)))
   (some (([]:List ByteArray),false))
   (if x0.size≤9223372036854775807 then(jb (ch x0) 0).bind fun y=>match y with
    | .ret b c=>(some (b,c))
    | .x0=>(if x0.size<4294967281 then if 1≤(⟨#[32]⟩:ByteArray).size then if(ep x0 (⟨#[32]⟩:ByteArray)).length≤9223372036854775807 then(fv (ep x0 (⟨#[32]⟩:ByteArray)) 0 ([])).bind fun y=>match y with
     | .x2 a=>(cond (decide ((a.length:Int)>(10:Int)))
      (some (([]:List ByteArray),false))
      (some (a,true)))else none else none else none)else none)
theorem K4 (x0:ByteArray):Ans (qY x0) (fun r=>Does E 111 [T7 x0] [(false,[.s .own () 1 (r.1.map etS)]),T3 r.2]):=by
 unfold qY;apply TW<;>intro e
 ·exact TT (DP Tryz.f111 [.b true] (AC e<|AN))
 ·refine TY (fun g => ?_);refine TX (fun y b => ?_);replace b:=IE x0 (ch x0) 0 rfl g y b;cases y with
  |ret c d =>have f:=b;exact TT (DP Tryz.f111 [.b false,.lp .ret (lG c d)] (AC e<|AL f<|AN))
  |x0 =>
   have f:=b;refine TY (fun i => ?_);refine TY (fun j => ?_);refine TY (fun h => ?_);refine TX (fun y b => ?_);replace b:=IF (ep x0 (⟨#[32]⟩:ByteArray)) (ep x0 (⟨#[32]⟩:ByteArray)) 0 ([]) rfl h y b;cases y with
   |x2 a =>
    have k:=b;apply TW<;>intro l
    ·exact TT (DP Tryz.f111 [.b false,.lp (.exit 0) (mA x0),.ret [(false,[.s .own () 1 ((ep x0 (⟨#[32]⟩:ByteArray)).map etS)])],T8 ((ep x0 (⟨#[32]⟩:ByteArray)).length:Int),.lp (.exit 2) (mB a),T8 (a.length:Int),.b true] (AC e<|AL f<|AD (lE x0 (⟨#[32]⟩:ByteArray) i j)<|ALn (ep x0 (⟨#[32]⟩:ByteArray)) etS<|AL k<|ALn a etS<|AC l<|AN))
    ·exact TT (DP Tryz.f111 [.b false,.lp (.exit 0) (mA x0),.ret [(false,[.s .own () 1 ((ep x0 (⟨#[32]⟩:ByteArray)).map etS)])],T8 ((ep x0 (⟨#[32]⟩:ByteArray)).length:Int),.lp (.exit 2) (mB a),T8 (a.length:Int),.b false] (AC e<|AL f<|AD (lE x0 (⟨#[32]⟩:ByteArray) i j)<|ALn (ep x0 (⟨#[32]⟩:ByteArray)) etS<|AL k<|ALn a etS<|AC l<|AN))
def okB (b:UInt8):Bool:=decide (32≤b.toNat)&&decide (b.toNat≤126)
theorem PH {b:UInt8}(h:b.toNat<32):okB b=false:=by unfold okB;rw[Uk (by omega)];rfl
theorem PF {b:UInt8}(h:126<b.toNat):okB b=false:=by unfold okB;rw[Uk (by omega:¬b.toNat≤126),VR]
theorem PG {b:UInt8}(h:¬b.toNat<32)(a:¬ 126<b.toNat):okB b=true:=by unfold okB;rw[Uj (by omega),Uj (by omega)];rfl
def ay (x:ByteArray):Bool := !(x.toList==ByteArray.empty.toList)
noncomputable def aN (s:ByteArray):List ByteArray×Bool :=if 600<s.size then([],false)else if(tx s).all okB=true then(if 10<(((b6 32 (tx s)).map ofTx).filter ay).length then([],false)else(((b6 32 (tx s)).map ofTx).filter ay,true))else([],false)
theorem Ir (l:List UInt8):ay (ofTx l)= !l.isEmpty:=by unfold ay;rw[gD];have:tx ByteArray.empty=[]:=rfl;rw[this,wD];cases l<;>rfl
theorem DN (s:ByteArray)(c:UInt8):ep s ⟨#[c]⟩=(b6 c (tx s)).map ofTx:=Md s c
theorem s6 (s:ByteArray):ch s=(tx s).map fun b=>(b.toNat:Int):=rfl
theorem H3 {s:ByteArray}{i:Nat}{b:UInt8}(h:(tx s)[i]?=some b):iq s (i:Int)=(b.toNat:Int):=by
 have hi:i<s.size:=by
  rw[dy];rcases Ul i (tx s).length with g|g
  ·exact g
  ·rw[Uh g]at h;cases h
 have:=vF s i hi;rw[s6,Ur,h]at this;exact(V9 this).symm
theorem PN:∀(l:List UInt8)(i:Nat),jb (l.map fun b=>(b.toNat:Int)) i=some (if l.all okB=true then .x0 else .ret [] false)
 |[],i=>rfl
 |b::l,i=>by
  rw[Uv];unfold jb;rw[PN l (i+1),Vl];by_cases h:b.toNat<32
  ·rw[Uj (by omega),PH h];rfl
  ·rw[Uk (by omega),Uu];by_cases a:126<b.toNat
   ·rw[Uj (by omega),PF a];rfl
   ·rw[Uk (by omega),PG h a];rfl
theorem Jx:∀(l:List ByteArray)(i:Nat)(v:List ByteArray),v.length+l.length≤4000000→fv l i v=some (.x2 (v++l.filter ay))
 |[],i,v,_=>by unfold fv;simp
 |x::l,i,v,h=>by
  simp only[UK]at h;unfold fv;have e:(!(x.toList==ByteArray.empty.toList))=ay x:=rfl;rw[e];cases q:ay x with
  |true =>rw[Uo,Ub (by simp;omega),Jx l (i+1) _ (by simp;omega),VD,q];simp
  |false =>rw[Uu,Jx l (i+1) v (by omega),VD,q];simp
theorem PO (s:ByteArray):qY s=some (aN s):=by
 unfold qY aN;by_cases h:600<s.size
 ·rw[Uj (by omega),Ub h];rfl
 ·have a:=BQ 32 (tx s);rw[←dy]at a;rw[Uk (by omega),Un h,Uu,Ub (by omega),s6,PN];by_cases q:(tx s).all okB=true
  ·rw[Ub q,Ub q,Ua];simp only;rw[Ub (by omega),Ub (by decide),DN,Ub (by simp;omega),Jx _ _ _ (by simp;omega),Ua];simp only[UI];by_cases r:10<(((b6 32 (tx s)).map ofTx).filter ay).length
   ·rw[Uj (by omega),Ub r];rfl
   ·rw[Uk (by omega),Un r];rfl
  ·rw[Un q,Un q];rfl
theorem Is {l:List UInt8}{i:Nat}(h:i<l.length):∃b r,l.drop i=b::r∧l[i]?=some b∧l.drop (i+1)=r:=by refine⟨l[i],l.drop (i+1),VK h,Ug h,rfl⟩
theorem PQ (s:ByteArray)(hs:s.size≤2000000):∀(m i a:Nat)(v:List ByteArray)(n:Nat),i+m=(tx s).length→m+1<n→a≤i→v.length+m≤2000000 →
  dp s n v (a:Int) (i:Int)=some (if((tx s).drop i).all okB=true then .x0 (v++((jm (seg (tx s) a i) (b6 32 ((tx s).drop i))).map ofTx).filter ay)else .ret [] false)
 |m,i,a,v,n,hi,A,f,hv=>by
  obtain⟨n,rfl⟩:∃k,n=k+2:=⟨n-2,by omega⟩
  have u:=dy s;unfold dp;rw[Uj (by omega:(i:Int)≤(s.size:Int)),Uo];have c:inc (i:Int)=((i+1:Nat):Int):=by rw[rD _ (by omega) (by omega)];omega
  cases m with
  |zero =>
   have hd:(tx s).drop i=[]:=U0 (by omega);have stop:∀w b,dp s (n+1) w b ((i+1:Nat):Int)=some (.x0 w):=fun w b=>by unfold dp;rw[Uk (by omega)];rfl
   have hc:jm (seg (tx s) a i) (b6 32 ([]:List UInt8))=[seg (tx s) a i]:=by simp[b6,jm]
   have hf:([seg (tx s) a i].map ofTx).filter ay=if a=i then []else [s.extract a i]:=by
    rw[Uv,UL,VD,Ir,MK f (by omega),nv];by_cases q:a=i
    ·rw[Ub q,Uj q];rfl
    ·rw[Un q,Uk q];rfl
   rw[Uk (by omega:¬(i:Int)<(s.size:Int)),Uu,c,hd,hc,hf,List.all_nil,Ub rfl];by_cases q:a=i
   ·rw[Uk (by omega),Uu,stop,Ub q,UF]
   ·rw[Uj (by omega),Uo,Ub (by omega),Ub (by simp;omega),stop,Un q];rfl
  |succ m =>
   obtain⟨b,r,hd,j,x⟩:=Is (l:=tx s) (i:=i) (by omega);have hb:=H3 j;have d:=fun o p (y:o≤i+1) (z:p.length+m≤2000000)=>PQ s hs m (i+1) o p (n+1) (by omega) (by omega) y z
   rw[x]at d;rw[Uj (by omega:(i:Int)<(s.size:Int)),Uo,Ub (by omega),hb,c,hd,Vl];have bl:=b.toNat_lt;by_cases h:b.toNat<32
   ·rw[Uj (by omega:((b.toNat:Int)<32)),Uo,PH h];rfl
   ·rw[Uk (by omega:¬((b.toNat:Int)<32)),Uu];by_cases t:126<b.toNat
    ·rw[Uj (by omega:((b.toNat:Int)>126)),Uo,PF t];rfl
    ·rw[Uk (by omega:¬((b.toNat:Int)>126)),Uu,PG h t,UJ];by_cases q:b=32
     ·subst q;have e:(((32:UInt8).toNat:Int) != 32)=false:=by decide
      rw[e,Uu,tw];have g:jm (seg (tx s) a i) ([]::b6 32 r)=seg (tx s) a i::b6 32 r:=by simp[jm]
      rw[g,Uv,VD,Ir,MK f (by omega)];have hz:jm (seg (tx s) (i+1) (i+1)) (b6 32 r)=b6 32 r:=by rw[ug];exact wY _ (jp _ _)
      by_cases q:a=i
      ·have:=d (i+1) v (by omega) (by omega);rw[hz]at this;rw[Uk (by omega),Uu,this,Uj q];rfl
      ·have:=d (i+1) (v++[s.extract a i]) (by omega) (by simp;omega);rw[hz]at this;rw[Uj (by omega),Uo,Ub (by omega),Ub (by simp;omega)];rw[show((a:Int).toNat)=a by omega,show((i:Int).toNat)=i by omega,this,Uk q,nv];simp
     ·have e:((b.toNat:Int) != 32)=true:=by rw[Xi];intro h;exact q (Xg.1 (by show b.toNat=32;omega))
      rw[e,Uo,d a v (by omega) (by omega),oD q,FU _ _ _ (jp _ _), ←Kb f j]
theorem PP (s:ByteArray):rj s=some (aN s):=by
 unfold rj aN;by_cases h:600<s.size
 ·rw[Uj (by omega),Ub h];rfl
 ·have hz:jm (seg (tx s) 0 0) (b6 32 (tx s))=b6 32 (tx s):=by rw[ug];exact wY _ (jp _ _)
  have e:=PQ s (by omega) (tx s).length 0 0 [] 9223372036854775808 (by omega) (by rw[←dy];omega) (by omega) (by rw[←dy];simp;omega);rw[UM,hz,UI]at e;rw[Uk (by omega),Un h,Uu];refine(Uz (Option.bind · _) e).trans ?_;by_cases q:(tx s).all okB=true
  ·rw[Ub q,Ub q,Ua];simp only;by_cases r:10<(((b6 32 (tx s)).map ofTx).filter ay).length
   ·rw[Uj (by omega),Ub r];rfl
   ·rw[Uk (by omega),Un r];rfl
  ·rw[Un q,Un q];rfl
theorem vv {s p:ByteArray}(h:p∈(aN s).1):p.size≤600:=by
 unfold aN at h;split at h
 ·cases h
 ·rename_i b;split at h
  ·split at h
   ·cases h
   ·obtain⟨x,a,rfl⟩:=Uw.1 (VV.1 h).1;have:=BR _ _ x a;rw[rE];rw[←dy]at this;omega
  ·cases h
theorem KE (x0:ByteArray):Does E 83 [T7 x0] [(false,[.s .own () 1 (((aN x0).1).map etS)]),T3 ((aN x0).2)]:=by exact LQ x0 _ (PP x0)
theorem nI (x0:ByteArray){b:Bool}(a:(aN x0).2=b):Does E 83 [T7 x0] [(false,[.s .own () 1 (((aN x0).1).map etS)]),T3 b]:=by rw[←a];exact KE x0
theorem Ky (x0:ByteArray):Does E 111 [T7 x0] [(false,[.s .own () 1 (((aN x0).1).map etS)]),T3 ((aN x0).2)]:=by exact K4 x0 _ (PO x0)
theorem nH (x0:ByteArray){b:Bool}(a:(aN x0).2=b):Does E 111 [T7 x0] [(false,[.s .own () 1 (((aN x0).1).map etS)]),T3 b]:=by rw[←a];exact Ky x0
inductive t8 where|ret (v2:Int) (v3:Bool)|x0 (v4:Int)
def e8 (v0:ByteArray)(v4 v5:Int):US:=stL 42 [(0,T7 v0),(4,T5 v4),(5,T5 v5)]
def jl (a:Int)(b:Bool):US:=stL 42 [(2,T5 a),(3,T6 b)]
def gK (v0:ByteArray)(a:Int):US:=stL 42 [(0,T7 v0),(4,T5 a)]
abbrev kT:US→Exit→US→Prop:=Round E 121 (am Tryz.f121 0)
def Ca (v0:ByteArray)(v4 v5:Int):t8→Prop| .ret a b=>Loops E 121 (am Tryz.f121 0) (e8 v0 v4 v5) .ret (jl a b)| .x0 c=>Loops E 121 (am Tryz.f121 0) (e8 v0 v4 v5) (.exit 0) (gK v0 c)
noncomputable def e9 (v0:ByteArray):List Int→Nat→Int→Option t8|[],i,v4=>some (.x0 v4)|hd::rest,i,v4=>cond (decide (hd<(48:Int))) (some (.ret 0 false)) (cond (decide (hd>(57:Int))) (some (.ret 0 false)) (e9 v0 rest (i+1) (IntKind.wrap .i64 ((IntKind.wrap .i64 ((IntKind.wrap .i64 ((10:Int)*v4))+(IntKind.wrap .i64 hd)))-(48:Int)))))
theorem B9 (v0:ByteArray)(rest:List Int):∀(i:Nat)(v4:Int),(ch v0).drop i=rest→v0.size≤9223372036854775807→Ans (e9 v0 rest i v4) (Ca v0 v4 (i:Int)):=by
 induction rest with
 |nil =>intro i v4 a c;have hb:=tD a;unfold e9;exact TT (TV (show kT (e8 v0 v4 (i:Int)) (.exit 0) (gK v0 v4)from RP [.b false] (AC hb<|AN)) (by intro h;cases h))
 |cons hd rest g =>
  intro i v4 a c;have hb:=rB a;have j:=rC a c;have d:=aq a;have b:=vW a;obtain rfl:=vV a;unfold e9;apply TW<;>intro e
  ·exact TT (TV (show kT (e8 v0 v4 (i:Int)) .ret (jl 0 false)from RP [.b true,.b true] (AC hb<|AC b<|AC e<|AN)) (by intro h;cases h))
  ·apply TW<;>intro f
   ·exact TT (TV (show kT (e8 v0 v4 (i:Int)) .ret (jl 0 false)from RP [.b true,.b false,.b true] (AC hb<|AC b<|AC e<|AC b<|AC f<|AN)) (by intro h;cases h))
   ·exact(g (i+1) (IntKind.wrap .i64 ((IntKind.wrap .i64 ((IntKind.wrap .i64 ((10:Int)*v4))+(IntKind.wrap .i64 (iq v0 (i:Int)))))-(48:Int))) d c).mono fun y k=>by have r:kT (e8 v0 v4 (i:Int)) .normal (e8 v0 (IntKind.wrap .i64 ((IntKind.wrap .i64 ((IntKind.wrap .i64 ((10:Int)*v4))+(IntKind.wrap .i64 (iq v0 (i:Int)))))-(48:Int))) (inc (i:Int))):=RP [.b true,.b false,.b false] (AC hb<|AC b<|AC e<|AC b<|AC f<|AC b<|AN);rw[j]at r;cases y<;>exact TU r k
noncomputable def lN (x0:ByteArray):Option (Int×Bool):=
  cond (decide ((x0.size:Int)>(10:Int)))
   (some (0,false))
   (if x0.size≤9223372036854775807 then(e9 x0 (ch x0) 0 0).bind fun y=>match y with
    | .ret b c=>(some (b,c))
    | .x0 a=>(cond (decide (a>(1000000000:Int)))
     (some (0,false))
     (if -9223372036854775808≤a∧a≤9223372036854775807 then cond (!((bv a).toList==x0.toList))
      (some (0,false))
      (some (a,true))else none))else none)
theorem Dy (x0:ByteArray):Ans (lN x0) (fun r=>Does E 121 [T7 x0] [T2 r.1,T3 r.2]):=by
 unfold lN;apply TW<;>intro b
 ·exact TT (DP Tryz.f121 [.b true] (AC b<|AN))
 ·refine TY (fun g => ?_);refine TX (fun y f => ?_);replace f:=B9 x0 (ch x0) 0 0 rfl g y f;cases y with
  |ret c d =>have e:=f;exact TT (DP Tryz.f121 [.b false,.lp .ret (jl c d)] (AC b<|AL e<|AN))
  |x0 a =>
   have e:=f;apply TW<;>intro h
   ·exact TT (DP Tryz.f121 [.b false,.lp (.exit 0) (gK x0 a),.b true] (AC b<|AL e<|AC h<|AN))
   ·refine TY (fun i => ?_);apply TW<;>intro j
    ·exact TT (DP Tryz.f121 [.b false,.lp (.exit 0) (gK x0 a),.b false,.ret [T4 (bv a)],.b true] (AC b<|AL e<|AC h<|AD (qT a i)<|AC j<|AN))
    ·exact TT (DP Tryz.f121 [.b false,.lp (.exit 0) (gK x0 a),.b false,.ret [T4 (bv a)],.b false] (AC b<|AL e<|AC h<|AD (qT a i)<|AC j<|AN))
inductive tJ where|ret (v2:Int) (v3:Bool)|x0 (v4:Int)
def eX (v0:ByteArray)(v4 v5:Int):US:=stL 47 [(0,T7 v0),(4,T5 v4),(5,T5 v5)]
def jj (a:Int)(b:Bool):US:=stL 47 [(2,T5 a),(3,T6 b)]
def gE (v0:ByteArray)(a:Int):US:=stL 47 [(0,T7 v0),(4,T5 a)]
abbrev kK:US→Exit→US→Prop:=Round E 137 (am Tryz.f137 0)
def BZ (v0:ByteArray)(v4 v5:Int):tJ→Prop| .ret a b=>Loops E 137 (am Tryz.f137 0) (eX v0 v4 v5) .ret (jj a b)| .x0 c=>Loops E 137 (am Tryz.f137 0) (eX v0 v4 v5) (.exit 0) (gE v0 c)
noncomputable def eY (v0:ByteArray):List Int→Nat→Int→Option tJ|[],i,v4=>some (.x0 v4)|hd::rest,i,v4=>cond (decide (hd<(48:Int))) (some (.ret 0 false)) (cond (decide (hd>(57:Int))) (some (.ret 0 false)) (eY v0 rest (i+1) (IntKind.wrap .i64 ((IntKind.wrap .i64 (v4*(10:Int)))+(IntKind.wrap .i64 (IntKind.wrap .u8 (hd-(48:Int))))))))
theorem BY (v0:ByteArray)(rest:List Int):∀(i:Nat)(v4:Int),(ch v0).drop i=rest→v0.size≤9223372036854775807→Ans (eY v0 rest i v4) (BZ v0 v4 (i:Int)):=by
 induction rest with
 |nil =>intro i v4 a c;have hb:=tD a;unfold eY;exact TT (TV (show kK (eX v0 v4 (i:Int)) (.exit 0) (gE v0 v4)from RP [.b false] (AC hb<|AN)) (by intro h;cases h))
 |cons hd rest g =>
  intro i v4 a c;have hb:=rB a;have j:=rC a c;have d:=aq a;have b:=vW a;obtain rfl:=vV a;unfold eY;apply TW<;>intro e
  ·exact TT (TV (show kK (eX v0 v4 (i:Int)) .ret (jj 0 false)from RP [.b true,.b true] (AC hb<|AC b<|AC e<|AN)) (by intro h;cases h))
  ·apply TW<;>intro f
   ·exact TT (TV (show kK (eX v0 v4 (i:Int)) .ret (jj 0 false)from RP [.b true,.b false,.b true] (AC hb<|AC b<|AC e<|AC b<|AC f<|AN)) (by intro h;cases h))
   ·exact(g (i+1) (IntKind.wrap .i64 ((IntKind.wrap .i64 (v4*(10:Int)))+(IntKind.wrap .i64 (IntKind.wrap .u8 ((iq v0 (i:Int))-(48:Int)))))) d c).mono fun y k=>by have r:kK (eX v0 v4 (i:Int)) .normal (eX v0 (IntKind.wrap .i64 ((IntKind.wrap .i64 (v4*(10:Int)))+(IntKind.wrap .i64 (IntKind.wrap .u8 ((iq v0 (i:Int))-(48:Int)))))) (inc (i:Int))):=RP [.b true,.b false,.b false] (AC hb<|AC b<|AC e<|AC b<|AC f<|AC b<|AN);rw[j]at r;cases y<;>exact TU r k
noncomputable def lH (x0:ByteArray):Option (Int×Bool):=
  cond ((x0.size:Int)==(0:Int))
   (some (0,false))
   (cond (decide ((x0.size:Int)>(10:Int)))
    (some (0,false))
    (if x0.size≤9223372036854775807 then(eY x0 (ch x0) 0 0).bind fun y=>match y with
     | .ret b c=>(some (b,c))
     | .x0 a=>(cond (decide (a>(1000000000:Int)))
      (some (0,false))
      (if -9223372036854775808≤a∧a≤9223372036854775807 then cond (!((bv a).toList==x0.toList))
       (some (0,false))
       (some (a,true))else none))else none))
theorem C1 (x0:ByteArray):Ans (lH x0) (fun r=>Does E 137 [T7 x0] [T2 r.1,T3 r.2]):=by
 unfold lH;apply TW<;>intro b
 ·exact TT (DP Tryz.f137 [.b true] (AC b<|AN))
 ·apply TW<;>intro c
  ·exact TT (DP Tryz.f137 [.b false,.b true] (AC b<|AC c<|AN))
  ·refine TY (fun h => ?_);refine TX (fun y g => ?_);replace g:=BY x0 (ch x0) 0 0 rfl h y g;cases y with
   |ret d e =>have f:=g;exact TT (DP Tryz.f137 [.b false,.b false,.lp .ret (jj d e)] (AC b<|AC c<|AL f<|AN))
   |x0 a =>
    have f:=g;apply TW<;>intro i
    ·exact TT (DP Tryz.f137 [.b false,.b false,.lp (.exit 0) (gE x0 a),.b true] (AC b<|AC c<|AL f<|AC i<|AN))
    ·refine TY (fun j => ?_);apply TW<;>intro k
     ·exact TT (DP Tryz.f137 [.b false,.b false,.lp (.exit 0) (gE x0 a),.b false,.ret [T4 (bv a)],.b true] (AC b<|AC c<|AL f<|AC i<|AD (uY a j)<|AC k<|AN))
     ·exact TT (DP Tryz.f137 [.b false,.b false,.lp (.exit 0) (gE x0 a),.b false,.ret [T4 (bv a)],.b false] (AC b<|AC c<|AL f<|AC i<|AD (uY a j)<|AC k<|AN))
def mN:List UInt8→Int→Option Int|[],v=>some v|b::l,v=>if 48≤b.toNat∧b.toNat≤57 then mN l (10*v+((b.toNat:Int)-48))else none
noncomputable def ab (s:ByteArray):Int×Bool :=
 if 10<s.size then(0,false)else match mN (tx s) 0 with
  |none=>(0,false)
  |some n=>if 1000000000<n then(0,false)else if tx (bv n)=tx s then(n,true)else(0,false)
theorem Bq:∀(l:List UInt8)(v:Int)(k:Nat)(r:Int),0≤v→v<10 ^ k→mN l v=some r→0≤r∧r<10 ^ (k+l.length)
 |[],v,k,r,a,c,h=>by cases h;exact⟨a,c⟩
 |b::l,v,k,r,a,c,h=>by
  unfold mN at h;split at h
  ·rename_i hb;have:=Bq l (10*v+((b.toNat:Int)-48)) (k+1) r (by omega) (by rw[Int.pow_succ];omega) h;rw[UK,show k+(l.length+1)=k+1+l.length by omega];exact this
  ·cases h
theorem JG {k n:Nat}(h:k≤n):(10:Int) ^ k≤10 ^ n:=by
 have:=Nat.pow_le_pow_right (n:=10) (by omega) h;have e:∀m:Nat,10 ^ m=((10 ^ m:Nat):Int):=fun m=>by simp
 rw[e,e];omega
theorem JI (s:ByteArray):∀(l:List UInt8)(i:Nat)(v:Int)(k:Nat),0≤v→v<10 ^ k→k+l.length≤10 →
  e9 s (l.map fun b=>(b.toNat:Int)) i v=some (match mN l v with|some r => .x0 r|none => .ret 0 false) ∧
  eY s (l.map fun b=>(b.toNat:Int)) i v=some (match mN l v with|some r => .x0 r|none => .ret 0 false)
 |[],i,v,k,_,_,_=>⟨rfl,rfl⟩
 |b::l,i,v,k,f,g,a=>by
  have j:=JG (show k≤10 by omega);have c:(10:Int) ^ 10=10000000000:=by decide
  rw[Uv];unfold e9 eY mN;have bl:=b.toNat_lt;by_cases h:b.toNat<48
  ·rw[Uj (by omega:((b.toNat:Int)<48)),Un (by omega)];exact⟨rfl,rfl⟩
  ·rw[Uk (by omega:¬((b.toNat:Int)<48)),Uu,Uu];by_cases m:57<b.toNat
   ·rw[Uj (by omega:((b.toNat:Int)>57)),Un (by omega)];exact⟨rfl,rfl⟩
   ·rw[Uk (by omega:¬((b.toNat:Int)>57)),Ub (by omega),Uu,Uu];have d:IntKind.wrap .i64 (IntKind.wrap .i64 (IntKind.wrap .i64 (10*v)+IntKind.wrap .i64 (b.toNat:Int))-48)=10*v+((b.toNat:Int)-48):=by rw[em (10*v) (by omega) (by omega),em (b.toNat:Int) (by omega) (by omega),em (10*v+(b.toNat:Int)) (by omega) (by omega),em _ (by omega) (by omega)];omega
    have e:IntKind.wrap .i64 (IntKind.wrap .i64 (v*10)+IntKind.wrap .i64 (IntKind.wrap .u8 ((b.toNat:Int)-48)))=10*v+((b.toNat:Int)-48):=by rw[Ru (by omega) (by omega),em (v*10) (by omega) (by omega),em ((b.toNat:Int)-48) (by omega) (by omega),em _ (by omega) (by omega)];omega
    rw[d,e];simp only[UK]at a;exact JI s l (i+1) _ (k+1) (by omega) (by rw[Int.pow_succ];omega) (by omega)
theorem vy {s:ByteArray}(h:¬ 10<s.size){r:Int}(a:mN (tx s) 0=some r):0≤r∧r<10000000000:=by
 have:=Bq (tx s) 0 0 r (by omega) (by decide) a;have c:=JG (show 0+(tx s).length≤10 by rw[←dy];omega);have b:(10:Int) ^ 10=10000000000:=by decide
 omega
theorem PW (s:ByteArray):lN s=some (ab s):=by
 unfold lN ab;by_cases h:10<s.size
 ·rw[Uj (by omega),Ub h];rfl
 ·obtain⟨e, -⟩:=JI s (tx s) 0 0 0 (by omega) (by decide) (by rw[←dy];omega);rw[Uk (by omega),Un h,Uu,Ub (by omega),s6,e];cases q:mN (tx s) 0 with
  |none=>rfl
  |some n =>
   obtain⟨a,b⟩:=vy h q;simp only[Ua];by_cases z:1000000000<n
   ·rw[Uj (by omega),Ub z];rfl
   ·rw[Uk (by omega),Un z,Uu,Ub (by omega),gD];by_cases y:tx (bv n)=tx s
    ·rw[Uj y,Ub y];rfl
    ·rw[Uk y,Un y];rfl
theorem PV (s:ByteArray):lH s=some (ab s):=by
 unfold lH ab;by_cases hz:s.size=0
 ·have b:tx s=[]:=List.eq_nil_of_length_eq_zero (by rw[←dy];exact hz);have a:((s.size:Int)==0)=true:=by rw[hz];rfl
  rw[a,Uo,Un (by omega),b];unfold mN;simp only;have:¬tx (bv 0)=[]:=by unfold bv Lib.itoa;rw[Un (by omega),Lib.decDigits,dif_pos (by simp)];simp[tx]
  rw[Un (by omega),Un this]
 have a:((s.size:Int)==0)=false:=by rw[Va];omega
 rw[a,Uu];by_cases h:10<s.size
 ·rw[Uj (by omega),Ub h];rfl
 ·obtain⟨-,e⟩:=JI s (tx s) 0 0 0 (by omega) (by decide) (by rw[←dy];omega);rw[Uk (by omega),Un h,Uu,Ub (by omega),s6,e];cases q:mN (tx s) 0 with
  |none=>rfl
  |some n =>
   obtain⟨c,d⟩:=vy h q;simp only[Ua];by_cases z:1000000000<n
   ·rw[Uj (by omega),Ub z];rfl
   ·rw[Uk (by omega),Un z,Uu,Ub (by omega),gD];by_cases y:tx (bv n)=tx s
    ·rw[Uj y,Ub y];rfl
    ·rw[Uk y,Un y];rfl
theorem N9 (s:ByteArray):0≤(ab s).1∧(ab s).1≤1000000000:=by
 unfold ab;split
 ·exact⟨Ve _,by decide⟩
 ·rename_i h;split
  ·exact⟨Ve _,by decide⟩
  ·rename_i n q;obtain⟨a,b⟩:=vy h q;split
   ·exact⟨Ve _,by decide⟩
   ·split
    ·exact⟨a,by show n≤_;omega⟩
    ·exact⟨Ve _,by decide⟩
theorem F3:∀{l:List UInt8}{b:UInt8}(v:Int),b∈l→¬(48≤b.toNat∧b.toNat≤57)→mN l v=none
 |x::l,b,v,h,hb=>by
  unfold mN;rcases UE.1 h with rfl|h
  ·rw[Un hb]
  ·split
   ·exact F3 _ h hb
   ·rfl
theorem Bp {s:ByteArray}{b:UInt8}(h:b∈tx s)(hb:¬(48≤b.toNat∧b.toNat≤57)):ab s=(0,false):=by unfold ab;rw[F3 0 h hb];split<;>rfl
theorem oV (x0:ByteArray):Does E 121 [T7 x0] [T2 ((ab x0).1),T3 ((ab x0).2)]:=by exact Dy x0 _ (PW x0)
theorem aw (x0:ByteArray){b:Bool}(a:(ab x0).2=b):Does E 121 [T7 x0] [T2 ((ab x0).1),T3 b]:=by rw[←a];exact oV x0
theorem uo (x0:ByteArray):Does E 137 [T7 x0] [T2 ((ab x0).1),T3 ((ab x0).2)]:=by exact C1 x0 _ (PV x0)
theorem br (x0:ByteArray){b:Bool}(a:(ab x0).2=b):Does E 137 [T7 x0] [T2 ((ab x0).1),T3 b]:=by rw[←a];exact uo x0
inductive yk where|x0 (v5:List ByteArray)
def fT (v0:ByteArray)(v1:Int)(v5:List ByteArray)(v6 v7:Int):US:=stL 36 [(0,T7 v0),(1,.one (tY v1)),(5,.one (.s .own () 1 (v5.map etS))),(6,T5 v6),(7,T5 v7)]
def pY (a:List ByteArray):US:=stL 36 [(5,.one (.s .own () 1 (a.map etS)))]
abbrev oa:US→Exit→US→Prop:=Round E 106 (am Tryz.f106 0)
def He (v0:ByteArray)(v1:Int)(v5:List ByteArray)(v6 v7:Int):yk→Prop| .x0 a=>Loops E 106 (am Tryz.f106 0) (fT v0 v1 v5 v6 v7) (.exit 0) (pY a)
noncomputable def dZ (v0:ByteArray)(v1:Int):Nat→(List ByteArray)→Int→Int→Option yk| 0,_,_,_=>none|n+1,v5,v6,v7=>cond (decide (v7≤(v0.size:Int))) (cond (v7==(v0.size:Int)) (if 0≤v6∧v6≤v7∧v7≤(v0.size:Int)then if(v5.length+([v0.extract v6.toNat v7.toNat]).length)*16≤140737488355328∧v5.length+([v0.extract v6.toNat v7.toNat]).length≤4611686018427387904 then dZ v0 v1 n (v5++([v0.extract v6.toNat v7.toNat])) (inc v7) (inc v7)else none else none) (if 0≤v7∧v7<(v0.size:Int)then cond ((iq v0 v7)==v1) (if 0≤v6∧v6≤v7∧v7≤(v0.size:Int)then if(v5.length+([v0.extract v6.toNat v7.toNat]).length)*16≤140737488355328∧v5.length+([v0.extract v6.toNat v7.toNat]).length≤4611686018427387904 then dZ v0 v1 n (v5++([v0.extract v6.toNat v7.toNat])) (inc v7) (inc v7)else none else none) (dZ v0 v1 n v5 v6 (inc v7))else none)) (some (.x0 v5))
theorem Hd (v0:ByteArray)(v1:Int)(n:Nat):∀(v5:List ByteArray)(v6 v7:Int),Ans (dZ v0 v1 n v5 v6 v7) (He v0 v1 v5 v6 v7):=by
 induction n with
 |zero=>intros;exact Ans.none
 |succ n e =>
  intro v5 v6 v7;unfold dZ;apply TW<;>intro b
  ·apply TW<;>intro f
   ·refine TY (fun c => ?_);refine TY (fun d => ?_);have r:oa (fT v0 v1 v5 v6 v7) .normal (fT v0 v1 (v5++([v0.extract v6.toNat v7.toNat])) (inc v7) (inc v7)):=RP [.b true,.b true,.rows ((v5++([v0.extract v6.toNat v7.toNat])).map etS)] (AC b<|AC f<|AC c<|AAp etS (fun _=>rfl) d<|AN);exact(e (v5++([v0.extract v6.toNat v7.toNat])) (inc v7) (inc v7)).mono fun y a=>by cases y<;>exact TU r a
   ·refine TY (fun c => ?_);apply TW<;>intro d
    ·refine TY (fun g => ?_);refine TY (fun i => ?_);have r:oa (fT v0 v1 v5 v6 v7) .normal (fT v0 v1 (v5++([v0.extract v6.toNat v7.toNat])) (inc v7) (inc v7)):=RP [.b true,.b false,.b true,.rows ((v5++([v0.extract v6.toNat v7.toNat])).map etS)] (AC b<|AC f<|AC c<|AC d<|AC g<|AAp etS (fun _=>rfl) i<|AN);exact(e (v5++([v0.extract v6.toNat v7.toNat])) (inc v7) (inc v7)).mono fun y a=>by cases y<;>exact TU r a
    ·have r:oa (fT v0 v1 v5 v6 v7) .normal (fT v0 v1 v5 v6 (inc v7)):=RP [.b true,.b false,.b false] (AC b<|AC f<|AC c<|AC d<|AN);exact(e v5 v6 (inc v7)).mono fun y a=>by cases y<;>exact TU r a
  ·exact TT (TV (show oa (fT v0 v1 v5 v6 v7) (.exit 0) (pY v5)from RP [.b false] (AC b<|AN)) (by intro h;cases h))
noncomputable def pZ (x0:ByteArray)(b:Int):Option ((List ByteArray)):=
  (dZ x0 b 9223372036854775808 ([]) 0 0).bind fun y=>match y with
   | .x0 a=>(some (a))
theorem J3 (x0:ByteArray)(b:Int):Ans (pZ x0 b) (fun r=>Does E 106 [T7 x0,.one (tY b)] [(false,[.s .own () 1 (r.map etS)])]):=by
 unfold pZ;refine TX (fun y c => ?_);replace c:=Hd x0 b 9223372036854775808 ([]) 0 0 y c;cases y with
 |x0 a =>have d:=c;exact TT (DP Tryz.f106 [.lp (.exit 0) (pY a)] (AL d<|AN))
noncomputable def aj (s:ByteArray)(c:Int):List ByteArray:=(b6 (UInt8.ofNat c.toNat) (tx s)).map ofTx
theorem Qc (s:ByteArray)(c:UInt8)(hs:s.size≤2000000):∀(m i a:Nat)(v:List ByteArray)(n:Nat),i+m=(tx s).length→m+1<n→a≤i→v.length+m≤2000000 →
  dZ s (c.toNat:Int) n v (a:Int) (i:Int)=some (.x0 (v++(jm (seg (tx s) a i) (b6 c ((tx s).drop i))).map ofTx))
 |m,i,a,v,n,hi,A,t,hv=>by
  obtain⟨n,rfl⟩:∃k,n=k+2:=⟨n-2,by omega⟩
  have u:=dy s;unfold dZ;rw[Uj (by omega:(i:Int)≤(s.size:Int)),Uo];have d:inc (i:Int)=((i+1:Nat):Int):=by rw[rD _ (by omega) (by omega)];omega
  cases m with
  |zero =>
   have hd:(tx s).drop i=[]:=U0 (by omega);have stop:∀w b,dZ s (c.toNat:Int) (n+1) w b ((i+1:Nat):Int)=some (.x0 w):=fun w b=>by unfold dZ;rw[Uk (by omega)];rfl
   have hc:jm (seg (tx s) a i) (b6 c ([]:List UInt8))=[seg (tx s) a i]:=by simp[b6,jm]
   have e:((i:Int)==(s.size:Int))=true:=by rw[V6];omega
   rw[e,Uo,Ub (by omega),Ub (by simp;omega),d,stop,hd,hc,show((a:Int).toNat)=a by omega,show((i:Int).toNat)=i by omega,nv];rfl
  |succ m =>
   obtain⟨b,r,hd,j,x⟩:=Is (l:=tx s) (i:=i) (by omega);have hb:=H3 j;have f:=fun o p (y:o≤i+1) (z:p.length+m≤2000000)=>Qc s c hs m (i+1) o p (n+1) (by omega) (by omega) y z
   rw[x]at f;have e:((i:Int)==(s.size:Int))=false:=by rw[Va];omega
   rw[e,Uu,Ub (by omega),hb,d,hd];by_cases q:b=c
   ·subst q;have g:jm (seg (tx s) a i) ([]::b6 b r)=seg (tx s) a i::b6 b r:=by simp[jm]
    have hz:jm (seg (tx s) (i+1) (i+1)) (b6 b r)=b6 b r:=by rw[ug];exact wY _ (jp _ _)
    have:=f (i+1) (v++[s.extract a i]) (by omega) (by simp;omega);rw[hz]at this;rw[beq_self_eq_true,Uo,Ub (by omega),Ub (by simp;omega),tw,g];rw[show((a:Int).toNat)=a by omega,show((i:Int).toNat)=i by omega,this,nv];simp
   ·have e:((b.toNat:Int)==(c.toNat:Int))=false:=by rw[Va];intro h;exact q (Xg.1 (by omega))
    rw[e,Uu,f a v (by omega) (by omega),oD q,FU _ _ _ (jp _ _), ←Kb t j]
theorem NM (s:ByteArray)(c:Int)(hs:s.size≤2000000)(hc:0≤c∧c<256):pZ s c=some (aj s c):=by
 have hz:jm (seg (tx s) 0 0) (b6 (UInt8.ofNat c.toNat) (tx s))=b6 (UInt8.ofNat c.toNat) (tx s):=by rw[ug];exact wY _ (jp _ _)
 have e:=Qc s (UInt8.ofNat c.toNat) hs (tx s).length 0 0 [] 9223372036854775808 (by omega) (by rw[←dy];omega) (by omega) (by rw[←dy];simp;omega);have a:(((UInt8.ofNat c.toNat).toNat:Nat):Int)=c:=by rw[UInt8.toNat_ofNat'];omega
 rw[UM,hz,UI,a]at e;unfold pZ aj;refine(Uz (Option.bind · _) e).trans ?_;rfl
theorem a8 (x0:ByteArray)(a:Int)(h:x0.size≤2000000)(hc:0≤a∧a<256):Does E 106 [T7 x0,.one (tY a)] [(false,[.s .own () 1 ((aj x0 a).map etS)])]:=by exact J3 x0 a _ (NM x0 a h hc)
noncomputable def mi (x0:ByteArray)(b x2:Int):Option (Int×Int×Int×Bool):=cond (x0.toList==(⟨#[42]⟩:ByteArray).toList) (some (b,x2,1,true)) (cond (decide ((x0.size:Int)>(2:Int))) (if 0≤(0:Int)∧(0:Int)≤(2:Int)∧(2:Int)≤(x0.size:Int)then cond ((x0.extract (0:Int).toNat (2:Int).toNat).toList==(⟨#[42,47]⟩:ByteArray).toList) (if 0≤(2:Int)∧(2:Int)≤(x0.size:Int)∧(x0.size:Int)≤(x0.size:Int)then cond ((ab (x0.extract (2:Int).toNat (x0.size:Int).toNat)).2) (some (b,x2,(ab (x0.extract (2:Int).toNat (x0.size:Int).toNat)).1,decide (((ab (x0.extract (2:Int).toNat (x0.size:Int).toNat)).1)≥(1:Int)))) (some (b,x2,(ab (x0.extract (2:Int).toNat (x0.size:Int).toNat)).1,false))else none) (if x0.size≤2000000 then if 0≤(45:Int)∧(45:Int)<256 then(ak (aj x0 45) 0).bind fun a=>cond ((ab a).2) (cond (((aj x0 45).length:Int)==(2:Int)) ((ak (aj x0 45) 1).bind fun g1=>cond ((ab g1).2) (cond (decide (((aj x0 45).length:Int)≤(2:Int))) (cond (decide (b≤((ab a).1))) (cond (decide (((ab a).1)≤((ab g1).1))) (some ((ab a).1,(ab g1).1,1,decide (((ab g1).1)≤x2))) (some ((ab a).1,(ab g1).1,1,false))) (some ((ab a).1,(ab g1).1,1,false))) (some ((ab a).1,(ab g1).1,1,false))) (some ((ab a).1,(ab g1).1,1,false))) (cond (decide (((aj x0 45).length:Int)≤(2:Int))) (cond (decide (b≤((ab a).1))) (cond (decide (((ab a).1)≤((ab a).1))) (some ((ab a).1,(ab a).1,1,decide (((ab a).1)≤x2))) (some ((ab a).1,(ab a).1,1,false))) (some ((ab a).1,(ab a).1,1,false))) (some ((ab a).1,(ab a).1,1,false)))) (cond (((aj x0 45).length:Int)==(2:Int)) ((ak (aj x0 45) 1).bind fun g1=>some ((ab a).1,(ab g1).1,1,false)) (some ((ab a).1,(ab a).1,1,false)))else none else none)else none) (if x0.size≤2000000 then if 0≤(45:Int)∧(45:Int)<256 then(ak (aj x0 45) 0).bind fun a=>cond ((ab a).2) (cond (((aj x0 45).length:Int)==(2:Int)) ((ak (aj x0 45) 1).bind fun g1=>cond ((ab g1).2) (cond (decide (((aj x0 45).length:Int)≤(2:Int))) (cond (decide (b≤((ab a).1))) (cond (decide (((ab a).1)≤((ab g1).1))) (some ((ab a).1,(ab g1).1,1,decide (((ab g1).1)≤x2))) (some ((ab a).1,(ab g1).1,1,false))) (some ((ab a).1,(ab g1).1,1,false))) (some ((ab a).1,(ab g1).1,1,false))) (some ((ab a).1,(ab g1).1,1,false))) (cond (decide (((aj x0 45).length:Int)≤(2:Int))) (cond (decide (b≤((ab a).1))) (cond (decide (((ab a).1)≤((ab a).1))) (some ((ab a).1,(ab a).1,1,decide (((ab a).1)≤x2))) (some ((ab a).1,(ab a).1,1,false))) (some ((ab a).1,(ab a).1,1,false))) (some ((ab a).1,(ab a).1,1,false)))) (cond (((aj x0 45).length:Int)==(2:Int)) ((ak (aj x0 45) 1).bind fun g1=>some ((ab a).1,(ab g1).1,1,false)) (some ((ab a).1,(ab a).1,1,false)))else none else none))
theorem J0 (x0:ByteArray)(p x2:Int):Ans (mi x0 p x2) (fun r=>Does E 107 [T7 x0,T5 p,T5 x2] [T2 r.1,T2 r.2.1,T2 r.2.2.1,T3 r.2.2.2]):=by
 unfold mi;apply TW<;>intro e
 ·exact TT (DP Tryz.f107 [.b true] (AC e<|AN))
 ·apply TW<;>intro h
  ·refine TY (fun f => ?_);apply TW<;>intro g
   ·refine TY (fun c => ?_);apply TW<;>intro d
    ·exact TT (DP Tryz.f107 [.b false,.b true,.b true,.ret [T2 ((ab (x0.extract (2:Int).toNat (x0.size:Int).toNat)).1),T3 true]] (AC e<|AC h<|AC f<|AC g<|AC c<|AD (aw (x0.extract (2:Int).toNat (x0.size:Int).toNat) d)<|AN))
    ·exact TT (DP Tryz.f107 [.b false,.b true,.b true,.ret [T2 ((ab (x0.extract (2:Int).toNat (x0.size:Int).toNat)).1),T3 false]] (AC e<|AC h<|AC f<|AC g<|AC c<|AD (aw (x0.extract (2:Int).toNat (x0.size:Int).toNat) d)<|AN))
   ·refine TY (fun c => ?_);refine TY (fun d => ?_);refine TX (fun a i => ?_);apply TW<;>intro j
    ·apply TW<;>intro k
     ·refine TX (fun g1 m => ?_);apply TW<;>intro b
      ·apply TW<;>intro l
       ·apply TW<;>intro n
        ·apply TW<;>intro o
         ·exact TT (DP Tryz.f107 [.b false,.b true,.b false,.ret [(false,[.s .own () 1 ((aj x0 45).map etS)])],.row (etS a),.ret [T2 ((ab a).1),T3 true],T8 ((aj x0 45).length:Int),.b true,.row (etS g1),.ret [T2 ((ab g1).1),T3 true],T8 ((aj x0 45).length:Int),.b true,.b true,.b true] (AC e<|AC h<|AC f<|AC g<|AD (a8 x0 45 c d)<|AG etS i<|AD (aw a j)<|ALn (aj x0 45) etS<|AC k<|AG etS m<|AD (aw g1 b)<|ALn (aj x0 45) etS<|AC l<|AC n<|AC o<|AN))
         ·exact TT (DP Tryz.f107 [.b false,.b true,.b false,.ret [(false,[.s .own () 1 ((aj x0 45).map etS)])],.row (etS a),.ret [T2 ((ab a).1),T3 true],T8 ((aj x0 45).length:Int),.b true,.row (etS g1),.ret [T2 ((ab g1).1),T3 true],T8 ((aj x0 45).length:Int),.b true,.b true,.b false] (AC e<|AC h<|AC f<|AC g<|AD (a8 x0 45 c d)<|AG etS i<|AD (aw a j)<|ALn (aj x0 45) etS<|AC k<|AG etS m<|AD (aw g1 b)<|ALn (aj x0 45) etS<|AC l<|AC n<|AC o<|AN))
        ·exact TT (DP Tryz.f107 [.b false,.b true,.b false,.ret [(false,[.s .own () 1 ((aj x0 45).map etS)])],.row (etS a),.ret [T2 ((ab a).1),T3 true],T8 ((aj x0 45).length:Int),.b true,.row (etS g1),.ret [T2 ((ab g1).1),T3 true],T8 ((aj x0 45).length:Int),.b true,.b false] (AC e<|AC h<|AC f<|AC g<|AD (a8 x0 45 c d)<|AG etS i<|AD (aw a j)<|ALn (aj x0 45) etS<|AC k<|AG etS m<|AD (aw g1 b)<|ALn (aj x0 45) etS<|AC l<|AC n<|AN))
       ·exact TT (DP Tryz.f107 [.b false,.b true,.b false,.ret [(false,[.s .own () 1 ((aj x0 45).map etS)])],.row (etS a),.ret [T2 ((ab a).1),T3 true],T8 ((aj x0 45).length:Int),.b true,.row (etS g1),.ret [T2 ((ab g1).1),T3 true],T8 ((aj x0 45).length:Int),.b false] (AC e<|AC h<|AC f<|AC g<|AD (a8 x0 45 c d)<|AG etS i<|AD (aw a j)<|ALn (aj x0 45) etS<|AC k<|AG etS m<|AD (aw g1 b)<|ALn (aj x0 45) etS<|AC l<|AN))
      ·exact TT (DP Tryz.f107 [.b false,.b true,.b false,.ret [(false,[.s .own () 1 ((aj x0 45).map etS)])],.row (etS a),.ret [T2 ((ab a).1),T3 true],T8 ((aj x0 45).length:Int),.b true,.row (etS g1),.ret [T2 ((ab g1).1),T3 false]] (AC e<|AC h<|AC f<|AC g<|AD (a8 x0 45 c d)<|AG etS i<|AD (aw a j)<|ALn (aj x0 45) etS<|AC k<|AG etS m<|AD (aw g1 b)<|AN))
     ·apply TW<;>intro m
      ·apply TW<;>intro b
       ·apply TW<;>intro l
        ·exact TT (DP Tryz.f107 [.b false,.b true,.b false,.ret [(false,[.s .own () 1 ((aj x0 45).map etS)])],.row (etS a),.ret [T2 ((ab a).1),T3 true],T8 ((aj x0 45).length:Int),.b false,T8 ((aj x0 45).length:Int),.b true,.b true,.b true] (AC e<|AC h<|AC f<|AC g<|AD (a8 x0 45 c d)<|AG etS i<|AD (aw a j)<|ALn (aj x0 45) etS<|AC k<|ALn (aj x0 45) etS<|AC m<|AC b<|AC l<|AN))
        ·exact TT (DP Tryz.f107 [.b false,.b true,.b false,.ret [(false,[.s .own () 1 ((aj x0 45).map etS)])],.row (etS a),.ret [T2 ((ab a).1),T3 true],T8 ((aj x0 45).length:Int),.b false,T8 ((aj x0 45).length:Int),.b true,.b true,.b false] (AC e<|AC h<|AC f<|AC g<|AD (a8 x0 45 c d)<|AG etS i<|AD (aw a j)<|ALn (aj x0 45) etS<|AC k<|ALn (aj x0 45) etS<|AC m<|AC b<|AC l<|AN))
       ·exact TT (DP Tryz.f107 [.b false,.b true,.b false,.ret [(false,[.s .own () 1 ((aj x0 45).map etS)])],.row (etS a),.ret [T2 ((ab a).1),T3 true],T8 ((aj x0 45).length:Int),.b false,T8 ((aj x0 45).length:Int),.b true,.b false] (AC e<|AC h<|AC f<|AC g<|AD (a8 x0 45 c d)<|AG etS i<|AD (aw a j)<|ALn (aj x0 45) etS<|AC k<|ALn (aj x0 45) etS<|AC m<|AC b<|AN))
      ·exact TT (DP Tryz.f107 [.b false,.b true,.b false,.ret [(false,[.s .own () 1 ((aj x0 45).map etS)])],.row (etS a),.ret [T2 ((ab a).1),T3 true],T8 ((aj x0 45).length:Int),.b false,T8 ((aj x0 45).length:Int),.b false] (AC e<|AC h<|AC f<|AC g<|AD (a8 x0 45 c d)<|AG etS i<|AD (aw a j)<|ALn (aj x0 45) etS<|AC k<|ALn (aj x0 45) etS<|AC m<|AN))
    ·apply TW<;>intro k
     ·refine TX (fun g1 m => ?_);exact TT (DP Tryz.f107 [.b false,.b true,.b false,.ret [(false,[.s .own () 1 ((aj x0 45).map etS)])],.row (etS a),.ret [T2 ((ab a).1),T3 false],T8 ((aj x0 45).length:Int),.b true,.row (etS g1),.ret [T2 ((ab g1).1),T3 ((ab g1).2)]] (AC e<|AC h<|AC f<|AC g<|AD (a8 x0 45 c d)<|AG etS i<|AD (aw a j)<|ALn (aj x0 45) etS<|AC k<|AG etS m<|AD (oV g1)<|AN))
     ·exact TT (DP Tryz.f107 [.b false,.b true,.b false,.ret [(false,[.s .own () 1 ((aj x0 45).map etS)])],.row (etS a),.ret [T2 ((ab a).1),T3 false],T8 ((aj x0 45).length:Int),.b false] (AC e<|AC h<|AC f<|AC g<|AD (a8 x0 45 c d)<|AG etS i<|AD (aw a j)<|ALn (aj x0 45) etS<|AC k<|AN))
  ·refine TY (fun f => ?_);refine TY (fun g => ?_);refine TX (fun a c => ?_);apply TW<;>intro d
   ·apply TW<;>intro i
    ·refine TX (fun g1 j => ?_);apply TW<;>intro k
     ·apply TW<;>intro m
      ·apply TW<;>intro b
       ·apply TW<;>intro l
        ·exact TT (DP Tryz.f107 [.b false,.b false,.ret [(false,[.s .own () 1 ((aj x0 45).map etS)])],.row (etS a),.ret [T2 ((ab a).1),T3 true],T8 ((aj x0 45).length:Int),.b true,.row (etS g1),.ret [T2 ((ab g1).1),T3 true],T8 ((aj x0 45).length:Int),.b true,.b true,.b true] (AC e<|AC h<|AD (a8 x0 45 f g)<|AG etS c<|AD (aw a d)<|ALn (aj x0 45) etS<|AC i<|AG etS j<|AD (aw g1 k)<|ALn (aj x0 45) etS<|AC m<|AC b<|AC l<|AN))
        ·exact TT (DP Tryz.f107 [.b false,.b false,.ret [(false,[.s .own () 1 ((aj x0 45).map etS)])],.row (etS a),.ret [T2 ((ab a).1),T3 true],T8 ((aj x0 45).length:Int),.b true,.row (etS g1),.ret [T2 ((ab g1).1),T3 true],T8 ((aj x0 45).length:Int),.b true,.b true,.b false] (AC e<|AC h<|AD (a8 x0 45 f g)<|AG etS c<|AD (aw a d)<|ALn (aj x0 45) etS<|AC i<|AG etS j<|AD (aw g1 k)<|ALn (aj x0 45) etS<|AC m<|AC b<|AC l<|AN))
       ·exact TT (DP Tryz.f107 [.b false,.b false,.ret [(false,[.s .own () 1 ((aj x0 45).map etS)])],.row (etS a),.ret [T2 ((ab a).1),T3 true],T8 ((aj x0 45).length:Int),.b true,.row (etS g1),.ret [T2 ((ab g1).1),T3 true],T8 ((aj x0 45).length:Int),.b true,.b false] (AC e<|AC h<|AD (a8 x0 45 f g)<|AG etS c<|AD (aw a d)<|ALn (aj x0 45) etS<|AC i<|AG etS j<|AD (aw g1 k)<|ALn (aj x0 45) etS<|AC m<|AC b<|AN))
      ·exact TT (DP Tryz.f107 [.b false,.b false,.ret [(false,[.s .own () 1 ((aj x0 45).map etS)])],.row (etS a),.ret [T2 ((ab a).1),T3 true],T8 ((aj x0 45).length:Int),.b true,.row (etS g1),.ret [T2 ((ab g1).1),T3 true],T8 ((aj x0 45).length:Int),.b false] (AC e<|AC h<|AD (a8 x0 45 f g)<|AG etS c<|AD (aw a d)<|ALn (aj x0 45) etS<|AC i<|AG etS j<|AD (aw g1 k)<|ALn (aj x0 45) etS<|AC m<|AN))
     ·exact TT (DP Tryz.f107 [.b false,.b false,.ret [(false,[.s .own () 1 ((aj x0 45).map etS)])],.row (etS a),.ret [T2 ((ab a).1),T3 true],T8 ((aj x0 45).length:Int),.b true,.row (etS g1),.ret [T2 ((ab g1).1),T3 false]] (AC e<|AC h<|AD (a8 x0 45 f g)<|AG etS c<|AD (aw a d)<|ALn (aj x0 45) etS<|AC i<|AG etS j<|AD (aw g1 k)<|AN))
    ·apply TW<;>intro j
     ·apply TW<;>intro k
      ·apply TW<;>intro m
       ·exact TT (DP Tryz.f107 [.b false,.b false,.ret [(false,[.s .own () 1 ((aj x0 45).map etS)])],.row (etS a),.ret [T2 ((ab a).1),T3 true],T8 ((aj x0 45).length:Int),.b false,T8 ((aj x0 45).length:Int),.b true,.b true,.b true] (AC e<|AC h<|AD (a8 x0 45 f g)<|AG etS c<|AD (aw a d)<|ALn (aj x0 45) etS<|AC i<|ALn (aj x0 45) etS<|AC j<|AC k<|AC m<|AN))
       ·exact TT (DP Tryz.f107 [.b false,.b false,.ret [(false,[.s .own () 1 ((aj x0 45).map etS)])],.row (etS a),.ret [T2 ((ab a).1),T3 true],T8 ((aj x0 45).length:Int),.b false,T8 ((aj x0 45).length:Int),.b true,.b true,.b false] (AC e<|AC h<|AD (a8 x0 45 f g)<|AG etS c<|AD (aw a d)<|ALn (aj x0 45) etS<|AC i<|ALn (aj x0 45) etS<|AC j<|AC k<|AC m<|AN))
      ·exact TT (DP Tryz.f107 [.b false,.b false,.ret [(false,[.s .own () 1 ((aj x0 45).map etS)])],.row (etS a),.ret [T2 ((ab a).1),T3 true],T8 ((aj x0 45).length:Int),.b false,T8 ((aj x0 45).length:Int),.b true,.b false] (AC e<|AC h<|AD (a8 x0 45 f g)<|AG etS c<|AD (aw a d)<|ALn (aj x0 45) etS<|AC i<|ALn (aj x0 45) etS<|AC j<|AC k<|AN))
     ·exact TT (DP Tryz.f107 [.b false,.b false,.ret [(false,[.s .own () 1 ((aj x0 45).map etS)])],.row (etS a),.ret [T2 ((ab a).1),T3 true],T8 ((aj x0 45).length:Int),.b false,T8 ((aj x0 45).length:Int),.b false] (AC e<|AC h<|AD (a8 x0 45 f g)<|AG etS c<|AD (aw a d)<|ALn (aj x0 45) etS<|AC i<|ALn (aj x0 45) etS<|AC j<|AN))
   ·apply TW<;>intro i
    ·refine TX (fun g1 j => ?_);exact TT (DP Tryz.f107 [.b false,.b false,.ret [(false,[.s .own () 1 ((aj x0 45).map etS)])],.row (etS a),.ret [T2 ((ab a).1),T3 false],T8 ((aj x0 45).length:Int),.b true,.row (etS g1),.ret [T2 ((ab g1).1),T3 ((ab g1).2)]] (AC e<|AC h<|AD (a8 x0 45 f g)<|AG etS c<|AD (aw a d)<|ALn (aj x0 45) etS<|AC i<|AG etS j<|AD (oV g1)<|AN))
    ·exact TT (DP Tryz.f107 [.b false,.b false,.ret [(false,[.s .own () 1 ((aj x0 45).map etS)])],.row (etS a),.ret [T2 ((ab a).1),T3 false],T8 ((aj x0 45).length:Int),.b false] (AC e<|AC h<|AD (a8 x0 45 f g)<|AG etS c<|AD (aw a d)<|ALn (aj x0 45) etS<|AC i<|AN))
noncomputable def nz (x0:ByteArray)(a x2:Int):Option (Int×Int×Int×Bool):=cond (x0.toList==(⟨#[42]⟩:ByteArray).toList) (some (a,x2,1,true)) (cond ((bZ x0 (⟨#[42,47]⟩:ByteArray)).2) (cond ((ab ((bZ x0 (⟨#[42,47]⟩:ByteArray)).1)).2) (some (a,x2,(ab ((bZ x0 (⟨#[42,47]⟩:ByteArray)).1)).1,decide (((ab ((bZ x0 (⟨#[42,47]⟩:ByteArray)).1)).1)≥(1:Int)))) (some (a,x2,(ab ((bZ x0 (⟨#[42,47]⟩:ByteArray)).1)).1,false))) (if x0.size<4294967281 then cond ((aL x0 (⟨#[45]⟩:ByteArray)).2.2) (cond ((ab ((aL x0 (⟨#[45]⟩:ByteArray)).1)).2) (cond ((ab ((aL x0 (⟨#[45]⟩:ByteArray)).2.1)).2) (cond (decide (((ab ((aL x0 (⟨#[45]⟩:ByteArray)).1)).1)≥a)) (cond (decide (((ab ((aL x0 (⟨#[45]⟩:ByteArray)).1)).1)≤((ab ((aL x0 (⟨#[45]⟩:ByteArray)).2.1)).1))) (some ((ab ((aL x0 (⟨#[45]⟩:ByteArray)).1)).1,(ab ((aL x0 (⟨#[45]⟩:ByteArray)).2.1)).1,1,decide (((ab ((aL x0 (⟨#[45]⟩:ByteArray)).2.1)).1)≤x2))) (some ((ab ((aL x0 (⟨#[45]⟩:ByteArray)).1)).1,(ab ((aL x0 (⟨#[45]⟩:ByteArray)).2.1)).1,1,false))) (some ((ab ((aL x0 (⟨#[45]⟩:ByteArray)).1)).1,(ab ((aL x0 (⟨#[45]⟩:ByteArray)).2.1)).1,1,false))) (some ((ab ((aL x0 (⟨#[45]⟩:ByteArray)).1)).1,(ab ((aL x0 (⟨#[45]⟩:ByteArray)).2.1)).1,1,false))) (some ((ab ((aL x0 (⟨#[45]⟩:ByteArray)).1)).1,(ab ((aL x0 (⟨#[45]⟩:ByteArray)).2.1)).1,1,false))) (cond ((ab ((aL x0 (⟨#[45]⟩:ByteArray)).1)).2) (cond (decide (((ab ((aL x0 (⟨#[45]⟩:ByteArray)).1)).1)≥a)) (cond (decide (((ab ((aL x0 (⟨#[45]⟩:ByteArray)).1)).1)≤((ab ((aL x0 (⟨#[45]⟩:ByteArray)).1)).1))) (some ((ab ((aL x0 (⟨#[45]⟩:ByteArray)).1)).1,(ab ((aL x0 (⟨#[45]⟩:ByteArray)).1)).1,1,decide (((ab ((aL x0 (⟨#[45]⟩:ByteArray)).1)).1)≤x2))) (some ((ab ((aL x0 (⟨#[45]⟩:ByteArray)).1)).1,(ab ((aL x0 (⟨#[45]⟩:ByteArray)).1)).1,1,false))) (some ((ab ((aL x0 (⟨#[45]⟩:ByteArray)).1)).1,(ab ((aL x0 (⟨#[45]⟩:ByteArray)).1)).1,1,false))) (some ((ab ((aL x0 (⟨#[45]⟩:ByteArray)).1)).1,(ab ((aL x0 (⟨#[45]⟩:ByteArray)).1)).1,1,false)))else none))
theorem Lc (x0:ByteArray)(h x2:Int):Ans (nz x0 h x2) (fun r=>Does E 126 [T7 x0,T5 h,T5 x2] [T2 r.1,T2 r.2.1,T2 r.2.2.1,T3 r.2.2.2]):=by
 unfold nz;apply TW<;>intro a
 ·exact TT (DP Tryz.f126 [.b true] (AC a<|AN))
 ·apply TW<;>intro c
  ·apply TW<;>intro b
   ·exact TT (DP Tryz.f126 [.b false,.ret [T4 ((bZ x0 (⟨#[42,47]⟩:ByteArray)).1),T3 true],.ret [T2 ((ab ((bZ x0 (⟨#[42,47]⟩:ByteArray)).1)).1),T3 true]] (AC a<|AD (TZ (rs':=[T4 ((bZ x0 (⟨#[42,47]⟩:ByteArray)).1),T3 true]) (bP x0 (⟨#[42,47]⟩:ByteArray)) (by rw[c]))<|AD (br ((bZ x0 (⟨#[42,47]⟩:ByteArray)).1) b)<|AN))
   ·exact TT (DP Tryz.f126 [.b false,.ret [T4 ((bZ x0 (⟨#[42,47]⟩:ByteArray)).1),T3 true],.ret [T2 ((ab ((bZ x0 (⟨#[42,47]⟩:ByteArray)).1)).1),T3 false]] (AC a<|AD (TZ (rs':=[T4 ((bZ x0 (⟨#[42,47]⟩:ByteArray)).1),T3 true]) (bP x0 (⟨#[42,47]⟩:ByteArray)) (by rw[c]))<|AD (br ((bZ x0 (⟨#[42,47]⟩:ByteArray)).1) b)<|AN))
  ·refine TY (fun b => ?_);apply TW<;>intro e
   ·apply TW<;>intro d
    ·apply TW<;>intro f
     ·apply TW<;>intro g
      ·apply TW<;>intro i
       ·exact TT (DP Tryz.f126 [.b false,.ret [T4 ((bZ x0 (⟨#[42,47]⟩:ByteArray)).1),T3 false],.ret [T4 ((aL x0 (⟨#[45]⟩:ByteArray)).1),T4 ((aL x0 (⟨#[45]⟩:ByteArray)).2.1),T3 true],.ret [T2 ((ab ((aL x0 (⟨#[45]⟩:ByteArray)).1)).1),T3 true],.ret [T2 ((ab ((aL x0 (⟨#[45]⟩:ByteArray)).2.1)).1),T3 true],.b true,.b true] (AC a<|AD (TZ (rs':=[T4 ((bZ x0 (⟨#[42,47]⟩:ByteArray)).1),T3 false]) (bP x0 (⟨#[42,47]⟩:ByteArray)) (by rw[c]))<|AD (TZ (rs':=[T4 ((aL x0 (⟨#[45]⟩:ByteArray)).1),T4 ((aL x0 (⟨#[45]⟩:ByteArray)).2.1),T3 true]) (eP x0 (⟨#[45]⟩:ByteArray) b) (by rw[e]))<|AD (br ((aL x0 (⟨#[45]⟩:ByteArray)).1) d)<|AD (br ((aL x0 (⟨#[45]⟩:ByteArray)).2.1) f)<|AC g<|AC i<|AN))
       ·exact TT (DP Tryz.f126 [.b false,.ret [T4 ((bZ x0 (⟨#[42,47]⟩:ByteArray)).1),T3 false],.ret [T4 ((aL x0 (⟨#[45]⟩:ByteArray)).1),T4 ((aL x0 (⟨#[45]⟩:ByteArray)).2.1),T3 true],.ret [T2 ((ab ((aL x0 (⟨#[45]⟩:ByteArray)).1)).1),T3 true],.ret [T2 ((ab ((aL x0 (⟨#[45]⟩:ByteArray)).2.1)).1),T3 true],.b true,.b false] (AC a<|AD (TZ (rs':=[T4 ((bZ x0 (⟨#[42,47]⟩:ByteArray)).1),T3 false]) (bP x0 (⟨#[42,47]⟩:ByteArray)) (by rw[c]))<|AD (TZ (rs':=[T4 ((aL x0 (⟨#[45]⟩:ByteArray)).1),T4 ((aL x0 (⟨#[45]⟩:ByteArray)).2.1),T3 true]) (eP x0 (⟨#[45]⟩:ByteArray) b) (by rw[e]))<|AD (br ((aL x0 (⟨#[45]⟩:ByteArray)).1) d)<|AD (br ((aL x0 (⟨#[45]⟩:ByteArray)).2.1) f)<|AC g<|AC i<|AN))
      ·exact TT (DP Tryz.f126 [.b false,.ret [T4 ((bZ x0 (⟨#[42,47]⟩:ByteArray)).1),T3 false],.ret [T4 ((aL x0 (⟨#[45]⟩:ByteArray)).1),T4 ((aL x0 (⟨#[45]⟩:ByteArray)).2.1),T3 true],.ret [T2 ((ab ((aL x0 (⟨#[45]⟩:ByteArray)).1)).1),T3 true],.ret [T2 ((ab ((aL x0 (⟨#[45]⟩:ByteArray)).2.1)).1),T3 true],.b false] (AC a<|AD (TZ (rs':=[T4 ((bZ x0 (⟨#[42,47]⟩:ByteArray)).1),T3 false]) (bP x0 (⟨#[42,47]⟩:ByteArray)) (by rw[c]))<|AD (TZ (rs':=[T4 ((aL x0 (⟨#[45]⟩:ByteArray)).1),T4 ((aL x0 (⟨#[45]⟩:ByteArray)).2.1),T3 true]) (eP x0 (⟨#[45]⟩:ByteArray) b) (by rw[e]))<|AD (br ((aL x0 (⟨#[45]⟩:ByteArray)).1) d)<|AD (br ((aL x0 (⟨#[45]⟩:ByteArray)).2.1) f)<|AC g<|AN))
     ·exact TT (DP Tryz.f126 [.b false,.ret [T4 ((bZ x0 (⟨#[42,47]⟩:ByteArray)).1),T3 false],.ret [T4 ((aL x0 (⟨#[45]⟩:ByteArray)).1),T4 ((aL x0 (⟨#[45]⟩:ByteArray)).2.1),T3 true],.ret [T2 ((ab ((aL x0 (⟨#[45]⟩:ByteArray)).1)).1),T3 true],.ret [T2 ((ab ((aL x0 (⟨#[45]⟩:ByteArray)).2.1)).1),T3 false]] (AC a<|AD (TZ (rs':=[T4 ((bZ x0 (⟨#[42,47]⟩:ByteArray)).1),T3 false]) (bP x0 (⟨#[42,47]⟩:ByteArray)) (by rw[c]))<|AD (TZ (rs':=[T4 ((aL x0 (⟨#[45]⟩:ByteArray)).1),T4 ((aL x0 (⟨#[45]⟩:ByteArray)).2.1),T3 true]) (eP x0 (⟨#[45]⟩:ByteArray) b) (by rw[e]))<|AD (br ((aL x0 (⟨#[45]⟩:ByteArray)).1) d)<|AD (br ((aL x0 (⟨#[45]⟩:ByteArray)).2.1) f)<|AN))
    ·exact TT (DP Tryz.f126 [.b false,.ret [T4 ((bZ x0 (⟨#[42,47]⟩:ByteArray)).1),T3 false],.ret [T4 ((aL x0 (⟨#[45]⟩:ByteArray)).1),T4 ((aL x0 (⟨#[45]⟩:ByteArray)).2.1),T3 true],.ret [T2 ((ab ((aL x0 (⟨#[45]⟩:ByteArray)).1)).1),T3 false],.ret [T2 ((ab ((aL x0 (⟨#[45]⟩:ByteArray)).2.1)).1),T3 ((ab ((aL x0 (⟨#[45]⟩:ByteArray)).2.1)).2)]] (AC a<|AD (TZ (rs':=[T4 ((bZ x0 (⟨#[42,47]⟩:ByteArray)).1),T3 false]) (bP x0 (⟨#[42,47]⟩:ByteArray)) (by rw[c]))<|AD (TZ (rs':=[T4 ((aL x0 (⟨#[45]⟩:ByteArray)).1),T4 ((aL x0 (⟨#[45]⟩:ByteArray)).2.1),T3 true]) (eP x0 (⟨#[45]⟩:ByteArray) b) (by rw[e]))<|AD (br ((aL x0 (⟨#[45]⟩:ByteArray)).1) d)<|AD (uo ((aL x0 (⟨#[45]⟩:ByteArray)).2.1))<|AN))
   ·apply TW<;>intro d
    ·apply TW<;>intro f
     ·apply TW<;>intro g
      ·exact TT (DP Tryz.f126 [.b false,.ret [T4 ((bZ x0 (⟨#[42,47]⟩:ByteArray)).1),T3 false],.ret [T4 ((aL x0 (⟨#[45]⟩:ByteArray)).1),T4 ((aL x0 (⟨#[45]⟩:ByteArray)).2.1),T3 false],.ret [T2 ((ab ((aL x0 (⟨#[45]⟩:ByteArray)).1)).1),T3 true],.b true,.b true] (AC a<|AD (TZ (rs':=[T4 ((bZ x0 (⟨#[42,47]⟩:ByteArray)).1),T3 false]) (bP x0 (⟨#[42,47]⟩:ByteArray)) (by rw[c]))<|AD (TZ (rs':=[T4 ((aL x0 (⟨#[45]⟩:ByteArray)).1),T4 ((aL x0 (⟨#[45]⟩:ByteArray)).2.1),T3 false]) (eP x0 (⟨#[45]⟩:ByteArray) b) (by rw[e]))<|AD (br ((aL x0 (⟨#[45]⟩:ByteArray)).1) d)<|AC f<|AC g<|AN))
      ·exact TT (DP Tryz.f126 [.b false,.ret [T4 ((bZ x0 (⟨#[42,47]⟩:ByteArray)).1),T3 false],.ret [T4 ((aL x0 (⟨#[45]⟩:ByteArray)).1),T4 ((aL x0 (⟨#[45]⟩:ByteArray)).2.1),T3 false],.ret [T2 ((ab ((aL x0 (⟨#[45]⟩:ByteArray)).1)).1),T3 true],.b true,.b false] (AC a<|AD (TZ (rs':=[T4 ((bZ x0 (⟨#[42,47]⟩:ByteArray)).1),T3 false]) (bP x0 (⟨#[42,47]⟩:ByteArray)) (by rw[c]))<|AD (TZ (rs':=[T4 ((aL x0 (⟨#[45]⟩:ByteArray)).1),T4 ((aL x0 (⟨#[45]⟩:ByteArray)).2.1),T3 false]) (eP x0 (⟨#[45]⟩:ByteArray) b) (by rw[e]))<|AD (br ((aL x0 (⟨#[45]⟩:ByteArray)).1) d)<|AC f<|AC g<|AN))
     ·exact TT (DP Tryz.f126 [.b false,.ret [T4 ((bZ x0 (⟨#[42,47]⟩:ByteArray)).1),T3 false],.ret [T4 ((aL x0 (⟨#[45]⟩:ByteArray)).1),T4 ((aL x0 (⟨#[45]⟩:ByteArray)).2.1),T3 false],.ret [T2 ((ab ((aL x0 (⟨#[45]⟩:ByteArray)).1)).1),T3 true],.b false] (AC a<|AD (TZ (rs':=[T4 ((bZ x0 (⟨#[42,47]⟩:ByteArray)).1),T3 false]) (bP x0 (⟨#[42,47]⟩:ByteArray)) (by rw[c]))<|AD (TZ (rs':=[T4 ((aL x0 (⟨#[45]⟩:ByteArray)).1),T4 ((aL x0 (⟨#[45]⟩:ByteArray)).2.1),T3 false]) (eP x0 (⟨#[45]⟩:ByteArray) b) (by rw[e]))<|AD (br ((aL x0 (⟨#[45]⟩:ByteArray)).1) d)<|AC f<|AN))
    ·exact TT (DP Tryz.f126 [.b false,.ret [T4 ((bZ x0 (⟨#[42,47]⟩:ByteArray)).1),T3 false],.ret [T4 ((aL x0 (⟨#[45]⟩:ByteArray)).1),T4 ((aL x0 (⟨#[45]⟩:ByteArray)).2.1),T3 false],.ret [T2 ((ab ((aL x0 (⟨#[45]⟩:ByteArray)).1)).1),T3 false]] (AC a<|AD (TZ (rs':=[T4 ((bZ x0 (⟨#[42,47]⟩:ByteArray)).1),T3 false]) (bP x0 (⟨#[42,47]⟩:ByteArray)) (by rw[c]))<|AD (TZ (rs':=[T4 ((aL x0 (⟨#[45]⟩:ByteArray)).1),T4 ((aL x0 (⟨#[45]⟩:ByteArray)).2.1),T3 false]) (eP x0 (⟨#[45]⟩:ByteArray) b) (by rw[e]))<|AD (br ((aL x0 (⟨#[45]⟩:ByteArray)).1) d)<|AN))
def yE (r:Int×Int×Int×Bool)(o:Option (Int×Int×Int)):Prop :=
 match o with|some (a,b,c)=>r=(a,b,c,true)|none=>r.2.2.2=false
noncomputable def wr (a:List (List UInt8))(lo hi:Int):Option (Int×Int×Int):=
 match a with
 |[p]=>if(ab (ofTx p)).2=true∧lo≤(ab (ofTx p)).1∧(ab (ofTx p)).1≤hi then some ((ab (ofTx p)).1,(ab (ofTx p)).1,1)else none
 |[p,q]=>if(ab (ofTx p)).2=true∧(ab (ofTx q)).2=true∧lo≤(ab (ofTx p)).1∧(ab (ofTx p)).1≤(ab (ofTx q)).1∧(ab (ofTx q)).1≤hi then some ((ab (ofTx p)).1,(ab (ofTx q)).1,1)else none
 |_=>none
theorem B7 (p:List UInt8)(lo hi:Int):wr [p] lo hi=if(ab (ofTx p)).2=true∧lo≤(ab (ofTx p)).1∧(ab (ofTx p)).1≤hi then some ((ab (ofTx p)).1,(ab (ofTx p)).1,1)else none:=rfl
theorem Jz (p q:List UInt8)(lo hi:Int):wr [p,q] lo hi=if(ab (ofTx p)).2=true∧(ab (ofTx q)).2=true∧lo≤(ab (ofTx p)).1∧(ab (ofTx p)).1≤(ab (ofTx q)).1∧(ab (ofTx q)).1≤hi then some ((ab (ofTx p)).1,(ab (ofTx q)).1,1)else none:=rfl
theorem JA (p q r:List UInt8)(l:List (List UInt8))(lo hi:Int):wr (p::q::r::l) lo hi=none:=rfl
noncomputable def xr (s:ByteArray)(lo hi:Int):Option (Int×Int×Int):=if tx s=[42]then some (lo,hi,1) else if [42,47].isPrefixOf (tx s)=true then (if(ab (ofTx ((tx s).drop 2))).2=true∧1≤(ab (ofTx ((tx s).drop 2))).1 then some (lo,hi,(ab (ofTx ((tx s).drop 2))).1)else none) else wr (b6 45 (tx s)) lo hi
noncomputable def dn (s:ByteArray)(lo hi:Int):Int×Int×Int×Bool:=(mi s lo hi).getD (0,0,0,false)
noncomputable def dm (s:ByteArray)(lo hi:Int):Int×Int×Int×Bool:=(nz s lo hi).getD (0,0,0,false)
theorem JB {o:Option (Int×Int×Int×Bool)}{p:Option (Int×Int×Int)}{d:Int×Int×Int×Bool}(h:∃r,o=some r∧yE r p):o=some (o.getD d)∧yE (o.getD d) p:=by obtain⟨r,rfl,h⟩:=h;exact⟨rfl,h⟩
theorem PS (L:List ByteArray)(i:List (List UInt8))(n:L=i.map ofTx)(lo hi:Int)(m:∃x xs,i=x::xs):
  ∃r,((ak L 0).bind fun e=>cond ((ab e).2)
     (cond ((L.length:Int)==(2:Int))
      ((ak L 1).bind fun g1=>cond ((ab g1).2)
       (cond (decide ((L.length:Int)≤(2:Int)))
        (cond (decide (lo≤((ab e).1)))
         (cond (decide (((ab e).1)≤((ab g1).1)))
          (some ((ab e).1,(ab g1).1,1,decide (((ab g1).1)≤hi)))
          (some ((ab e).1,(ab g1).1,1,false)))
         (some ((ab e).1,(ab g1).1,1,false)))
        (some ((ab e).1,(ab g1).1,1,false)))
       (some ((ab e).1,(ab g1).1,1,false)))
      (cond (decide ((L.length:Int)≤(2:Int)))
       (cond (decide (lo≤((ab e).1)))
        (cond (decide (((ab e).1)≤((ab e).1)))
         (some ((ab e).1,(ab e).1,1,decide (((ab e).1)≤hi)))
         (some ((ab e).1,(ab e).1,1,false)))
        (some ((ab e).1,(ab e).1,1,false)))
       (some ((ab e).1,(ab e).1,1,false))))
     (cond ((L.length:Int)==(2:Int))
      ((ak L 1).bind fun g1=>some ((ab e).1,(ab g1).1,1,false))
      (some ((ab e).1,(ab e).1,1,false))))=some r∧yE r (wr i lo hi):=by
 subst n
 match i,m with
 |[p],_ =>
  have e:ak ([p].map ofTx) 0=some (ofTx p):=rfl;have j:((([p].map ofTx).length:Int)==2)=false:=rfl;have k:decide ((([p].map ofTx).length:Int)≤2)=true:=rfl;rw[e,j,k,B7,Ua];simp only[Uo,Uu];generalize ab (ofTx p)=a;obtain⟨a,b⟩:=a;cases b with
  |false=>exact⟨_,rfl,by rw[Un (by simp)];exact rfl⟩
  |true =>
   rw[Uo];by_cases f:lo≤a
   ·rw[Uj f,Uo,Uj (Ve _),Uo];refine⟨_,rfl,?_⟩;by_cases g:a≤hi
    ·rw[Uj g,Ub ⟨rfl,f,g⟩];exact rfl
    ·rw[Uk g,Un (fun h=>g h.2.2)];exact rfl
   ·rw[Uk f];exact⟨_,rfl,by rw[Un (fun h=>f h.2.1)];exact rfl⟩
 |[p,q],_ =>
  have e:ak ([p,q].map ofTx) 0=some (ofTx p):=rfl;have g1:ak ([p,q].map ofTx) 1=some (ofTx q):=rfl;have j:((([p,q].map ofTx).length:Int)==2)=true:=rfl;have k:decide ((([p,q].map ofTx).length:Int)≤2)=true:=rfl;rw[e,g1,j,k,Jz,Ua,Ua];simp only[Uo,Uu];generalize ab (ofTx p)=a;generalize ab (ofTx q)=c;obtain⟨a,b⟩:=a;obtain⟨c,d⟩:=c;cases b with
  |false=>exact⟨_,rfl,by rw[Un (by simp)];exact rfl⟩
  |true =>
   cases d with
   |false=>exact⟨_,rfl,by rw[Un (by simp)];exact rfl⟩
   |true =>
    rw[Uo,Uo];by_cases f:lo≤a
    ·rw[Uj f,Uo];by_cases l:a≤c
     ·rw[Uj l,Uo];refine⟨_,rfl,?_⟩;by_cases g:c≤hi
      ·rw[Uj g,Ub ⟨rfl,rfl,f,l,g⟩];exact rfl
      ·rw[Uk g,Un (fun h=>g h.2.2.2.2)];exact rfl
     ·rw[Uk l];exact⟨_,rfl,by rw[Un (fun h=>l h.2.2.2.1)];exact rfl⟩
    ·rw[Uk f];exact⟨_,rfl,by rw[Un (fun h=>f h.2.2.1)];exact rfl⟩
 |p::q::t::i,_ =>
  have j:((((p::q::t::i).map ofTx).length:Int)==2)=false:=by rw[Va];simp;omega
  have k:decide ((((p::q::t::i).map ofTx).length:Int)≤2)=false:=Uk (by simp;omega);rw[j,k,JA];have e:ak ((p::q::t::i).map ofTx) 0=some (ofTx p):=rfl;rw[e,Ua];cases(ab (ofTx p)).2 with
  |false=>exact⟨_,rfl,rfl⟩
  |true=>exact⟨_,rfl,rfl⟩
theorem F0 (s:ByteArray)(lo hi:Int)(hs:s.size≤2000000):mi s lo hi=some (dn s lo hi)∧yE (dn s lo hi) (xr s lo hi):=by
 refine JB ?_;unfold mi xr;have j:tx (⟨#[42]⟩:ByteArray)=[42]:=rfl;have d:tx (⟨#[42,47]⟩:ByteArray)=[42,47]:=rfl;rw[gD,j];by_cases h:tx s=[42]
 ·rw[Uj h,Ub h];exact⟨_,rfl,rfl⟩
 ·have n:(s.size≤2000000)=True:=Wk hs;have hc:((0:Int)≤45∧(45:Int)<256)=True:=Wk (by decide);have o:aj s 45=(b6 45 (tx s)).map ofTx:=rfl;have k:=PS (aj s 45) (b6 45 (tx s)) o lo hi (jp _ _);rw[Uk h,Un h,Uu];simp only[n,hc,UP];have hz:=dy s;by_cases f:2<s.size
  ·rw[Uj (by omega),Uo,Ub (by omega),gD,d,DV];have g:[42,47].isPrefixOf (tx s)=decide (seg (tx s) (0:Int).toNat (2:Int).toNat=[42,47]):=by
    obtain⟨a,b,l,e⟩:∃a b l,tx s=a::b::l:=by
     cases q:tx s with
     |nil=>rw[q]at hz;have:s.size=0:=hz;omega
     |cons a l =>
      cases l with
      |nil=>rw[q]at hz;have:s.size=1:=hz;omega
      |cons b l=>exact⟨a,b,l,rfl⟩
    have:seg (a::b::l) (0:Int).toNat (2:Int).toNat=[a,b]:=by simp[seg]
    have p:∀x y:UInt8,(x==y)=decide (y=x):=fun x y=>by
     by_cases h:y=x
     ·subst h;simp
     ·rw[Uk h,Va];exact fun e=>h e.symm
    rw[e,this];simp[List.isPrefixOf,p]
   rw[g];have t:s.extract (2:Int).toNat (s.size:Int).toNat=ofTx ((tx s).drop 2):=by rw[nv];unfold seg;rw[VG (by omega)];rfl
   by_cases q:seg (tx s) (0:Int).toNat (2:Int).toNat=[42,47]
   ·rw[Uj q,Uo,Ub rfl,Ub (by omega),t];generalize ab (ofTx ((tx s).drop 2))=a;obtain⟨a,b⟩:=a;cases b with
    |false=>exact⟨_,rfl,by rw[Un (by simp)];exact rfl⟩
    |true =>
     refine⟨_,rfl,?_⟩;by_cases z:1≤a
     ·rw[Uj (show a≥1 from z),Ub ⟨rfl,z⟩];exact rfl
     ·rw[Uk (show ¬a≥1 from z),Un (fun h=>z h.2)];exact rfl
   ·rw[Uk q,Uu,Un (by simp)];exact k
  ·rw[Uk (by omega),Uu];by_cases q:[42,47].isPrefixOf (tx s)=true
   ·rw[Ub q];have e:tx s=[42,47]:=by
     cases w:tx s with
     |nil=>rw[w]at q;simp[List.isPrefixOf]at q
     |cons a l =>
      cases l with
      |nil=>rw[w]at q;simp[List.isPrefixOf]at q
      |cons b l =>
       cases l with
       |nil=>rw[w]at q;simp[List.isPrefixOf]at q;rw[←q.1, ←q.2]
       |cons c l=>rw[w]at hz;simp at hz;omega
    have hb:(ab (ofTx ((tx s).drop 2)))=(0,false):=by
     rw[e];show ab (ofTx [])=_;unfold ab;rw[Un (by decide)];have:¬tx (bv 0)=tx (ofTx []):=by unfold bv Lib.itoa;rw[Un (by omega),Lib.decDigits,dif_pos (by simp)];simp[tx,ofTx]
     show(if(1000000000:Int)<0 then _ else if _ then _ else _)=_;rw[Un (by decide),Un this]
    rw[hb,Un (by simp)];obtain⟨r,u,f⟩:=k;refine⟨r,u,?_⟩;rw[e]at f;have i:b6 45 ([42,47]:List UInt8)=[[42,47]]:=vO (by decide);rw[i,B7]at f;have m:ab (ofTx [42,47])=(0,false):=Bp (b:=42) (by rw[wD];simp) (by decide);simp only[m]at f;rw[Un (by simp)]at f;exact f
   ·rw[Un q];exact k
theorem FZ (s:ByteArray)(lo hi:Int)(hs:s.size≤2000000):nz s lo hi=some (dm s lo hi)∧yE (dm s lo hi) (xr s lo hi):=by
 refine JB ?_;unfold nz xr;have k:tx (⟨#[42]⟩:ByteArray)=[42]:=rfl;rw[gD,k];by_cases h:tx s=[42]
 ·rw[Uj h,Ub h];exact⟨_,rfl,rfl⟩
 ·rw[Uk h,Un h,Uu];have l:(bZ s (⟨#[42,47]⟩:ByteArray)).2=[42,47].isPrefixOf (tx s):=rfl;rw[l];by_cases q:[42,47].isPrefixOf (tx s)=true
  ·have m:(bZ s (⟨#[42,47]⟩:ByteArray)).1=ofTx ((tx s).drop 2):=by show ofTx (Lib.trimPrefix (tx s) [42,47])=_;unfold Lib.trimPrefix Lib.hasPrefix;rw[Ub q];rfl
   rw[q,Uo,Ub rfl,m];generalize ab (ofTx ((tx s).drop 2))=a;obtain⟨a,b⟩:=a;cases b with
   |false=>exact⟨_,rfl,by rw[Un (by simp)];exact rfl⟩
   |true =>
    refine⟨_,rfl,?_⟩;by_cases z:1≤a
    ·rw[Uj (show a≥1 from z),Ub ⟨rfl,z⟩];exact rfl
    ·rw[Uk (show ¬a≥1 from z),Un (fun h=>z h.2)];exact rfl
  ·rw[Un q];rw[Wx]at q;rw[q,Uu,Ub (by omega)];rcases H8 (tx s) 45 with⟨i,f,j⟩|⟨a,b,i,f,j,o⟩
   ·have n:aL s (⟨#[45]⟩:ByteArray)=(s,ofTx [],false):=by show(ofTx (Lib.cut (tx s) [45]).1,ofTx (Lib.cut (tx s) [45]).2.1,(Lib.cut (tx s) [45]).2.2)=_;rw[f];rfl
    rw[n,j,B7];simp only[Uu];rw[wo];generalize ab s=a;obtain⟨a,b⟩:=a;cases b with
    |false=>exact⟨_,rfl,by rw[Un (by simp)];exact rfl⟩
    |true =>
     rw[Uo];by_cases i:lo≤a
     ·rw[Uj (show a≥lo from i),Uo,Uj (Ve _),Uo];refine⟨_,rfl,?_⟩;by_cases f:a≤hi
      ·rw[Uj f,Ub ⟨rfl,i,f⟩];exact rfl
      ·rw[Uk f,Un (fun h=>f h.2.2)];exact rfl
     ·rw[Uk (show ¬a≥lo from i)];exact⟨_,rfl,by rw[Un (fun h=>i h.2.1)];exact rfl⟩
   ·have n:aL s (⟨#[45]⟩:ByteArray)=(ofTx a,ofTx b,true):=by show(ofTx (Lib.cut (tx s) [45]).1,ofTx (Lib.cut (tx s) [45]).2.1,(Lib.cut (tx s) [45]).2.2)=_;rw[j]
    rw[n,o];simp only[Uo];by_cases hb:(45:UInt8)∈b
    ·have p:ab (ofTx b)=(0,false):=Bp (b:=45) (by rw[wD];exact hb) (by decide);have r:∃x y z,b6 45 b=x::y::z:=by
      rcases H8 b 45 with⟨g,_⟩|⟨c,d,_,_,_,g⟩
      ·exact absurd hb g
      ·obtain⟨y,z,e⟩:=jp 45 d;exact⟨c,y,z,by rw[g,e]⟩
     obtain⟨x,y,z,e⟩:=r;rw[e,p,JA];cases(ab (ofTx a)).2 with
     |false=>exact⟨_,rfl,rfl⟩
     |true=>exact⟨_,rfl,rfl⟩
    ·rw[vO hb,Jz];generalize ab (ofTx a)=a;generalize ab (ofTx b)=c;obtain⟨a,b⟩:=a;obtain⟨c,d⟩:=c;cases b with
     |false=>exact⟨_,rfl,by rw[Un (by simp)];exact rfl⟩
     |true =>
      cases d with
      |false=>exact⟨_,rfl,by rw[Un (by simp)];exact rfl⟩
      |true =>
       rw[Uo,Uo];by_cases i:lo≤a
       ·rw[Uj (show a≥lo from i),Uo];by_cases j:a≤c
        ·rw[Uj j,Uo];refine⟨_,rfl,?_⟩;by_cases f:c≤hi
         ·rw[Uj f,Ub ⟨rfl,rfl,i,j,f⟩];exact rfl
         ·rw[Uk f,Un (fun h=>f h.2.2.2.2)];exact rfl
        ·rw[Uk j];exact⟨_,rfl,by rw[Un (fun h=>j h.2.2.2.1)];exact rfl⟩
       ·rw[Uk (show ¬a≥lo from i)];exact⟨_,rfl,by rw[Un (fun h=>i h.2.2.1)];exact rfl⟩
theorem Q7 {s:ByteArray}{lo hi a b c:Int}(d:lo≤hi)(h:xr s lo hi=some (a,b,c)):lo≤a∧a≤b∧b≤hi∧1≤c∧c≤1000000000:=by
 unfold xr at h;split at h
 ·cases h;exact⟨Ve _,d,Ve _,Ve _,by decide⟩
 ·split at h
  ·split at h
   ·rename_i z;have:=N9 (ofTx ((tx s).drop 2));cases h;exact⟨Ve _,d,Ve _,z.2,this.2⟩
   ·cases h
  ·unfold wr at h;split at h
   ·split at h
    ·rename_i z;cases h;exact⟨z.2.1,Ve _,z.2.2,Ve _,by decide⟩
    ·cases h
   ·split at h
    ·rename_i z;cases h;exact⟨z.2.2.1,z.2.2.2.1,z.2.2.2.2,Ve _,by decide⟩
    ·cases h
   ·cases h
theorem HT (x0:ByteArray)(a:Int)(x2:Int)(h:x0.size≤2000000):Does E 107 [T7 x0,T5 a,T5 x2] [T2 ((dn x0 a x2).1),T2 ((dn x0 a x2).2.1),T2 ((dn x0 a x2).2.2.1),T3 ((dn x0 a x2).2.2.2)]:=by exact J0 x0 a x2 _ (F0 x0 a x2 h).1
theorem vI (x0:ByteArray)(a:Int)(x2:Int)(h:x0.size≤2000000){c:Bool}(b:(dn x0 a x2).2.2.2=c):Does E 107 [T7 x0,T5 a,T5 x2] [T2 ((dn x0 a x2).1),T2 ((dn x0 a x2).2.1),T2 ((dn x0 a x2).2.2.1),T3 c]:=by rw[←b];exact HT x0 a x2 h
theorem KA (x0:ByteArray)(a:Int)(x2:Int)(h:x0.size≤2000000):Does E 126 [T7 x0,T5 a,T5 x2] [T2 ((dm x0 a x2).1),T2 ((dm x0 a x2).2.1),T2 ((dm x0 a x2).2.2.1),T3 ((dm x0 a x2).2.2.2)]:=by exact Lc x0 a x2 _ (FZ x0 a x2 h).1
theorem xF (x0:ByteArray)(a:Int)(x2:Int)(h:x0.size≤2000000){c:Bool}(b:(dm x0 a x2).2.2.2=c):Does E 126 [T7 x0,T5 a,T5 x2] [T2 ((dm x0 a x2).1),T2 ((dm x0 a x2).2.1),T2 ((dm x0 a x2).2.2.1),T3 c]:=by rw[←b];exact KA x0 a x2 h
noncomputable def mC (x0:Int):Option (Int×Int):=cond (x0==(0:Int)) (some (0,59)) (cond (x0==(1:Int)) (some (0,23)) (cond (x0==(2:Int)) (some (1,31)) (cond (x0==(3:Int)) (some (1,12)) (some (0,6)))))
theorem ND (x0:Int):Ans (mC x0) (fun r=>Does E 125 [T5 x0] [T2 r.1,T2 r.2]):=by
 unfold mC;apply TW<;>intro a
 ·exact TT (DP Tryz.f125 [.b true] (AC a<|AN))
 ·apply TW<;>intro b
  ·exact TT (DP Tryz.f125 [.b false,.b true] (AC a<|AC b<|AN))
  ·apply TW<;>intro c
   ·exact TT (DP Tryz.f125 [.b false,.b false,.b true] (AC a<|AC b<|AC c<|AN))
   ·apply TW<;>intro d
    ·exact TT (DP Tryz.f125 [.b false,.b false,.b false,.b true] (AC a<|AC b<|AC c<|AC d<|AN))
    ·exact TT (DP Tryz.f125 [.b false,.b false,.b false,.b false] (AC a<|AC b<|AC c<|AC d<|AN))
noncomputable def aK (i:Int):Int×Int:=(mC i).getD (0,0)
theorem M5 (i:Int):mC i=some (aK i):=by refine Tot.getD ?_ _;unfold mC;repeat' (first|exact Tot.some _|apply Tot.cond)
theorem ON (i:Int):0≤(aK i).1∧(aK i).1≤(aK i).2∧(aK i).2≤59:=by unfold aK mC;cases i==0<;>cases i==1<;>cases i==2<;>cases i==3<;>exact⟨by decide,by decide,by decide⟩
theorem co (x0:Int):Does E 125 [T5 x0] [T2 ((aK x0).1),T2 ((aK x0).2)]:=by exact ND x0 _ (M5 x0)
inductive yj where|x4 (v16:List Int)
def jw (v2:Int)(v8:List Bool)(v16:List Int)(a:Int):US:=stL 70 [(2,T5 v2),(8,.one (.s .own () 1 (v8.map etB))),(16,.one (.s .own () 1 (v16.map etI))),(17,T5 a)]
def pX (a:List Int):US:=stL 70 [(16,.one (.s .own () 1 (a.map etI)))]
abbrev so:US→Exit→US→Prop:=Round E 84 (am Tryz.f84 2)
def Hc (v2:Int)(v8:List Bool)(v16:List Int)(b:Int):yj→Prop| .x4 a=>Loops E 84 (am Tryz.f84 2) (jw v2 v8 v16 b) (.exit 4) (pX a)
noncomputable def fS (v2:Int)(v8:List Bool):Nat→(List Int)→Int→Option yj| 0,_,_=>none|n+1,v16,a=>cond (decide (a≤v2)) ((ak v8 a).bind fun b=>cond (b) (if(v16.length+([a]).length)*8≤140737488355328∧v16.length+([a]).length≤4611686018427387904 then fS v2 v8 n (v16++([a])) (inc a)else none) (fS v2 v8 n v16 (inc a))) (some (.x4 v16))
theorem G9 (v2:Int)(v8:List Bool)(n:Nat):∀(v16:List Int)(a:Int),Ans (fS v2 v8 n v16 a) (Hc v2 v8 v16 a):=by
 induction n with
 |zero=>intros;exact Ans.none
 |succ n e =>
  intro v16 a;unfold fS;apply TW<;>intro c
  ·refine TX (fun f b => ?_);apply TW<;>intro g
   ·refine TY (fun i => ?_);have r:so (jw v2 v8 v16 a) .normal (jw v2 v8 (v16++([a])) (inc a)):=RP [.b true,.row ([tB true]),.rows ((v16++([a])).map etI)] (AC c<|AC (p:=0≤a∧a<((v8.map etB).length:Int)) (CT b)<|AC (p:=(v8.map etB)[0+a.toNat]?=some ([tB true])) ((vY b).trans (Uz some (show [tB f]=[tB true] by rw[g])))<|AAp etI (fun _=>rfl) i<|AN);exact(e (v16++([a])) (inc a)).mono fun y d=>by cases y<;>exact TU r d
   ·have r:so (jw v2 v8 v16 a) .normal (jw v2 v8 v16 (inc a)):=RP [.b true,.row ([tB false])] (AC c<|AC (p:=0≤a∧a<((v8.map etB).length:Int)) (CT b)<|AC (p:=(v8.map etB)[0+a.toNat]?=some ([tB false])) ((vY b).trans (Uz some (show [tB f]=[tB false] by rw[g])))<|AN);exact(e v16 (inc a)).mono fun y d=>by cases y<;>exact TU r d
  ·exact TT (TV (show so (jw v2 v8 v16 a) (.exit 4) (pX v16)from RP [.b false] (AC c<|AN)) (by intro h;cases h))
inductive yi where|x2 (v8:List Bool)
def nZ (v1 v2:Int)(v8:List Bool)(v9:List ByteArray)(v10 a b c:Int):US:=stL 70 [(1,T5 v1),(2,T5 v2),(8,.one (.s .own () 1 (v8.map etB))),(9,.one (.s .own () 1 (v9.map etS))),(10,T5 v10),(12,T5 a),(13,T5 b),(15,T5 c)]
def pW (v1 v2:Int)(v9:List ByteArray)(v10:Int)(a:List Bool):US:=stL 70 [(1,T5 v1),(2,T5 v2),(8,.one (.s .own () 1 (a.map etB))),(9,.one (.s .own () 1 (v9.map etS))),(10,T5 v10)]
abbrev yg:US→Exit→US→Prop:=Round E 84 (am Tryz.f84 1)
def Hb (v1 v2:Int)(v8:List Bool)(v9:List ByteArray)(v10 a b c:Int):yi→Prop| .x2 d=>Loops E 84 (am Tryz.f84 1) (nZ v1 v2 v8 v9 v10 a b c) (.exit 2) (pW v1 v2 v9 v10 d)
noncomputable def jx (b c:Int):Nat→(List Bool)→Int→Option yi| 0,_,_=>none|n+1,v8,a=>cond (decide (a≤b)) ((ak v8 a).bind fun d=>jx b c n (v8.set a.toNat true) (IntKind.wrap .i64 (a+c))) (some (.x2 v8))
theorem G8 (v1 v2:Int)(v9:List ByteArray)(v10 c b:Int)(n:Nat):∀(v8:List Bool)(a:Int),Ans (jx c b n v8 a) (Hb v1 v2 v8 v9 v10 c b a):=by
 induction n with
 |zero=>intros;exact Ans.none
 |succ n f =>
  intro v8 a;unfold jx;apply TW<;>intro d
  ·refine TX (fun e g => ?_);have r:yg (nZ v1 v2 v8 v9 v10 c b a) .normal (nZ v1 v2 (v8.set a.toNat true) v9 v10 c b (IntKind.wrap .i64 (a+b))):=RP [.b true,.row (etB e),.rows ((v8.set a.toNat true).map etB)] (AC d<|AG etB g<|AC (p:=(v8.map etB).set (0+a.toNat) (aA (etB e) 0 [tB true])=(v8.set a.toNat true).map etB) (gN (by rfl))<|AN);exact(f (v8.set a.toNat true) (IntKind.wrap .i64 (a+b))).mono fun y i=>by cases y<;>exact TU r i
  ·exact TT (TV (show yg (nZ v1 v2 v8 v9 v10 c b a) (.exit 2) (pW v1 v2 v9 v10 v8)from RP [.b false] (AC d<|AN)) (by intro h;cases h))
inductive yh where|ret (v6:List Int) (v7:Bool)|x0 (v8:List Bool)
def jv (v1 v2:Int)(v8:List Bool)(v9:List ByteArray)(v10:Int):US:=stL 70 [(1,T5 v1),(2,T5 v2),(8,.one (.s .own () 1 (v8.map etB))),(9,.one (.s .own () 1 (v9.map etS))),(10,T5 v10)]
def ow (a:List Int)(b:Bool):US:=stL 70 [(6,.one (.s .own () 1 (a.map etI))),(7,T6 b)]
def pV (v1 v2:Int)(a:List Bool):US:=stL 70 [(1,T5 v1),(2,T5 v2),(8,.one (.s .own () 1 (a.map etB)))]
abbrev sn:US→Exit→US→Prop:=Round E 84 (am Tryz.f84 0)
def Ha (v1 v2:Int)(v8:List Bool)(v9:List ByteArray)(v10:Int):yh→Prop| .ret a b=>Loops E 84 (am Tryz.f84 0) (jv v1 v2 v8 v9 v10) .ret (ow a b)| .x0 c=>Loops E 84 (am Tryz.f84 0) (jv v1 v2 v8 v9 v10) (.exit 0) (pV v1 v2 c)
noncomputable def eW (v1 v2:Int):List ByteArray→Nat→(List Bool)→Option yh
 |[],i,v8=>some (.x0 v8)
 |hd::rest,i,v8=>if hd.size≤2000000 then cond ((dn hd v1 v2).2.2.2)
  ((jx ((dn hd v1 v2).2.1) ((dn hd v1 v2).2.2.1) 9223372036854775808 v8 ((dn hd v1 v2).1)).bind fun y=>match y with
   | .x2 a=>(eW v1 v2 rest (i+1) a))
  (some (.ret ([]) false))else none
theorem G7 (v1 v2:Int)(v9:List ByteArray)(rest:List ByteArray):∀(i:Nat)(v8:List Bool),(v9).drop i=rest→v9.length≤9223372036854775807→Ans (eW v1 v2 rest i v8) (Ha v1 v2 v8 v9 (i:Int)):=by
 induction rest with
 |nil =>intro i v8 b d;have hb:=aI b;unfold eW;exact TT (TV (show sn (jv v1 v2 v8 v9 (i:Int)) (.exit 0) (pV v1 v2 v8)from RP [T8 (v9.length:Int),.b false] (ALn v9 etS<|AC hb<|AN)) (by intro h;cases h))
 |cons hd rest k =>
  intro i v8 b d;have hb:=aC b;have l:=aD b d;have e:=aq b;have f:=aB b;unfold eW;refine TY (fun g => ?_);apply TW<;>intro j
  ·refine TX (fun y c => ?_);replace c:=G8 v1 v2 v9 (i:Int) ((dn hd v1 v2).2.1) ((dn hd v1 v2).2.2.1) 9223372036854775808 v8 ((dn hd v1 v2).1) y c;cases y with
   |x2 a =>have m:=c;exact(k (i+1) a e d).mono fun y c=>by have r:sn (jv v1 v2 v8 v9 (i:Int)) .normal (jv v1 v2 a v9 (inc (i:Int))):=RP [T8 (v9.length:Int),.b true,.row (etS hd),.ret [T2 ((dn hd v1 v2).1),T2 ((dn hd v1 v2).2.1),T2 ((dn hd v1 v2).2.2.1),T3 true],.lp (.exit 2) (pW v1 v2 v9 (i:Int) a)] (ALn v9 etS<|AC hb<|AG etS f<|AD (vI hd v1 v2 g j)<|AL m<|AN);rw[l]at r;cases y<;>exact TU r c
  ·exact TT (TV (show sn (jv v1 v2 v8 v9 (i:Int)) .ret (ow ([]) false)from RP [T8 (v9.length:Int),.b true,.row (etS hd),.ret [T2 ((dn hd v1 v2).1),T2 ((dn hd v1 v2).2.1),T2 ((dn hd v1 v2).2.2.1),T3 false]] (ALn v9 etS<|AC hb<|AG etS f<|AD (vI hd v1 v2 g j)<|AN)) (by intro h;cases h))
noncomputable def jg (x0:ByteArray)(e x2:Int):Option ((List Int)×Bool):=
  if 0≤(inc x2)∧(inc x2)≤(inc x2)∧((1:Nat):Int)*(inc x2)≤281474976710656∧(inc x2)≤4611686018427387904 then if x0.size≤2000000 then if 0≤(44:Int)∧(44:Int)<256 then if(aj x0 44).length≤9223372036854775807 then(eW e x2 (aj x0 44) 0 (List.replicate (inc x2).toNat false)).bind fun y=>match y with
   | .ret b c=>(some (b,c))
   | .x0 d=>((fS x2 d 9223372036854775808 ([]) e).bind fun y=>match y with
    | .x4 a=>(some (a,true)))else none else none else none else none
theorem JX (x0:ByteArray)(d x2:Int):Ans (jg x0 d x2) (fun r=>Does E 84 [T7 x0,T5 d,T5 x2] [(false,[.s .own () 1 (r.1.map etI)]),T3 r.2]):=by
 unfold jg;refine TY (fun i => ?_);refine TY (fun j => ?_);refine TY (fun k => ?_);refine TY (fun g => ?_);refine TX (fun y a => ?_);replace a:=G7 d x2 (aj x0 44) (aj x0 44) 0 (List.replicate (inc x2).toNat false) rfl g y a;cases y with
 |ret e f =>have h:=a;exact TT (DP Tryz.f84 [.rows ((List.replicate (inc x2).toNat false).map etB),.ret [(false,[.s .own () 1 ((aj x0 44).map etS)])],.lp .ret (ow e f)] (AC i<|AC (p:=List.replicate (inc x2).toNat [tB false]=(List.replicate (inc x2).toNat false).map etB) (nE rfl)<|AD (a8 x0 44 j k)<|AL h<|AN))
 |x0 b =>
  have h:=a;refine TX (fun y a => ?_);replace a:=G9 x2 b 9223372036854775808 ([]) d y a;cases y with
  |x4 c =>have l:=a;exact TT (DP Tryz.f84 [.rows ((List.replicate (inc x2).toNat false).map etB),.ret [(false,[.s .own () 1 ((aj x0 44).map etS)])],.lp (.exit 0) (pV d x2 b),.lp (.exit 4) (pX c)] (AC i<|AC (p:=List.replicate (inc x2).toNat [tB false]=(List.replicate (inc x2).toNat false).map etB) (nE rfl)<|AD (a8 x0 44 j k)<|AL h<|AL l<|AN))
inductive uF where|x2 (v8:List Int)
def lJ (v6 v7:Int)(v8:List Int)(a b c:Int)(v22:List ByteArray)(d v24:Int):US:=stL 56 [(6,T5 v6),(7,T5 v7),(8,.one (.s .own () 1 (v8.map etI))),(12,T5 a),(13,T5 b),(15,T5 c),(22,.one (.s .own () 1 (v22.map etS))),(23,T5 d),(24,T5 v24)]
def nb (v6 v7:Int)(v22:List ByteArray)(a v24:Int)(b:List Int):US:=stL 56 [(6,T5 v6),(7,T5 v7),(8,.one (.s .own () 1 (b.map etI))),(22,.one (.s .own () 1 (v22.map etS))),(23,T5 a),(24,T5 v24)]
abbrev uD:US→Exit→US→Prop:=Round E 113 (am Tryz.f113 1)
def C7 (v6 v7:Int)(v8:List Int)(b c d:Int)(v22:List ByteArray)(a v24:Int):uF→Prop| .x2 e=>Loops E 113 (am Tryz.f113 1) (lJ v6 v7 v8 b c d v22 a v24) (.exit 2) (nb v6 v7 v22 a v24 e)
noncomputable def gX (b c:Int):Nat→(List Int)→Int→Option uF| 0,_,_=>none|n+1,v8,a=>cond (decide (a≤b)) (if(v8.length+([a]).length)*8≤140737488355328∧v8.length+([a]).length≤4611686018427387904 then gX b c n (v8++([a])) (IntKind.wrap .i64 (a+c))else none) (some (.x2 v8))
theorem C5 (v6 v7 c b:Int)(v22:List ByteArray)(d v24:Int)(n:Nat):∀(v8:List Int)(a:Int),Ans (gX c b n v8 a) (C7 v6 v7 v8 c b a v22 d v24):=by
 induction n with
 |zero=>intros;exact Ans.none
 |succ n f =>
  intro v8 a;unfold gX;apply TW<;>intro e
  ·refine TY (fun g => ?_);have r:uD (lJ v6 v7 v8 c b a v22 d v24) .normal (lJ v6 v7 (v8++([a])) c b (IntKind.wrap .i64 (a+b)) v22 d v24):=RP [.b true,.rows ((v8++([a])).map etI)] (AC e<|AAp etI (fun _=>rfl) g<|AN);exact(f (v8++([a])) (IntKind.wrap .i64 (a+b))).mono fun y i=>by cases y<;>exact TU r i
  ·exact TT (TV (show uD (lJ v6 v7 v8 c b a v22 d v24) (.exit 2) (nb v6 v7 v22 d v24 v8)from RP [.b false] (AC e<|AN)) (by intro h;cases h))
inductive uE where|ret (v4:List Int) (v5:Bool)|x0 (v8:List Int)
def gW (v6 v7:Int)(v8:List Int)(v22:List ByteArray)(a v24:Int):US:=stL 56 [(6,T5 v6),(7,T5 v7),(8,.one (.s .own () 1 (v8.map etI))),(22,.one (.s .own () 1 (v22.map etS))),(23,T5 a),(24,T5 v24)]
def l6 (a:List Int)(b:Bool):US:=stL 56 [(4,.one (.s .own () 1 (a.map etI))),(5,T6 b)]
def na (a:List Int):US:=stL 56 [(8,.one (.s .own () 1 (a.map etI)))]
abbrev pr:US→Exit→US→Prop:=Round E 113 (am Tryz.f113 0)
def C6 (v6 v7:Int)(v8:List Int)(v22:List ByteArray)(a v24:Int):uE→Prop| .ret b c=>Loops E 113 (am Tryz.f113 0) (gW v6 v7 v8 v22 a v24) .ret (l6 b c)| .x0 d=>Loops E 113 (am Tryz.f113 0) (gW v6 v7 v8 v22 a v24) (.exit 0) (na d)
noncomputable def dD (v6 v7:Int):List ByteArray→Nat→(List Int)→Option uE
 |[],i,v8=>some (.x0 v8)
 |hd::rest,i,v8=>if hd.size≤2000000 then cond ((dm hd v6 v7).2.2.2)
  ((gX ((dm hd v6 v7).2.1) ((dm hd v6 v7).2.2.1) 9223372036854775808 v8 ((dm hd v6 v7).1)).bind fun y=>match y with
   | .x2 a=>(dD v6 v7 rest (i+1) a))
  (some (.ret ([]) false))else none
theorem C4 (v6 v7:Int)(v22:List ByteArray)(rest:List ByteArray):∀(i:Nat)(v8:List Int),(v22).drop i=rest→v22.length≤9223372036854775807→Ans (dD v6 v7 rest i v8) (C6 v6 v7 v8 v22 (v22.length:Int) (i:Int)):=by
 induction rest with
 |nil =>intro i v8 b d;have hb:=aI b;unfold dD;exact TT (TV (show pr (gW v6 v7 v8 v22 (v22.length:Int) (i:Int)) (.exit 0) (na v8)from RP [.b false] (AC hb<|AN)) (by intro h;cases h))
 |cons hd rest k =>
  intro i v8 b d;have hb:=aC b;have l:=aD b d;have e:=aq b;have f:=aB b;unfold dD;refine TY (fun g => ?_);apply TW<;>intro j
  ·refine TX (fun y c => ?_);replace c:=C5 v6 v7 ((dm hd v6 v7).2.1) ((dm hd v6 v7).2.2.1) v22 (v22.length:Int) (i:Int) 9223372036854775808 v8 ((dm hd v6 v7).1) y c;cases y with
   |x2 a =>have m:=c;exact(k (i+1) a e d).mono fun y c=>by have r:pr (gW v6 v7 v8 v22 (v22.length:Int) (i:Int)) .normal (gW v6 v7 a v22 (v22.length:Int) (inc (i:Int))):=RP [.b true,.row (etS hd),.ret [T2 ((dm hd v6 v7).1),T2 ((dm hd v6 v7).2.1),T2 ((dm hd v6 v7).2.2.1),T3 true],.lp (.exit 2) (nb v6 v7 v22 (v22.length:Int) (i:Int) a)] (AC hb<|AG etS f<|AD (xF hd v6 v7 g j)<|AL m<|AN);rw[l]at r;cases y<;>exact TU r c
  ·exact TT (TV (show pr (gW v6 v7 v8 v22 (v22.length:Int) (i:Int)) .ret (l6 ([]) false)from RP [.b true,.row (etS hd),.ret [T2 ((dm hd v6 v7).1),T2 ((dm hd v6 v7).2.1),T2 ((dm hd v6 v7).2.2.1),T3 false]] (AC hb<|AG etS f<|AD (xF hd v6 v7 g j)<|AN)) (by intro h;cases h))
noncomputable def iO (x0:ByteArray)(d:Int):Option ((List Int)×Bool):=
  if x0.size<4294967281 then if 1≤(⟨#[44]⟩:ByteArray).size then if(ep x0 (⟨#[44]⟩:ByteArray)).length≤9223372036854775807 then(dD ((aK d).1) ((aK d).2) (ep x0 (⟨#[44]⟩:ByteArray)) 0 ([])).bind fun y=>match y with
   | .ret b c=>(some (b,c))
   | .x0 a=>(if a.length<4611686018427387904 then if(eh a).length≤9223372036854775807 then some (id (jS (eh a)),true)else none else none)else none else none else none
theorem Eo (x0:ByteArray)(b:Int):Ans (iO x0 b) (fun r=>Does E 113 [T7 x0,T5 b] [(false,[.s .own () 1 (r.1.map etI)]),T3 r.2]):=by
 unfold iO;refine TY (fun h => ?_);refine TY (fun i => ?_);refine TY (fun f => ?_);refine TX (fun y e => ?_);replace e:=C4 ((aK b).1) ((aK b).2) (ep x0 (⟨#[44]⟩:ByteArray)) (ep x0 (⟨#[44]⟩:ByteArray)) 0 ([]) rfl f y e;cases y with
 |ret c d =>have g:=e;exact TT (DP Tryz.f113 [.ret [T2 ((aK b).1),T2 ((aK b).2)],.ret [(false,[.s .own () 1 ((ep x0 (⟨#[44]⟩:ByteArray)).map etS)])],T8 ((ep x0 (⟨#[44]⟩:ByteArray)).length:Int),.lp .ret (l6 c d)] (AD (co b)<|AD (lE x0 (⟨#[44]⟩:ByteArray) h i)<|ALn (ep x0 (⟨#[44]⟩:ByteArray)) etS<|AL g<|AN))
 |x0 a =>have g:=e;refine TY (fun j => ?_);refine TY (fun l => ?_);exact TT (DP Tryz.f113 [.ret [T2 ((aK b).1),T2 ((aK b).2)],.ret [(false,[.s .own () 1 ((ep x0 (⟨#[44]⟩:ByteArray)).map etS)])],T8 ((ep x0 (⟨#[44]⟩:ByteArray)).length:Int),.lp (.exit 0) (na a),.ret [(false,[.s .own () 1 ((eh a).map etI)])],.ret [(false,[.any]),(false,[.s .own () 1 ((jS (eh a)).map etI)])],.ret [(false,[.any]),(false,[.s .own () 1 ((id (jS (eh a))).map etI)])]] (AD (co b)<|AD (lE x0 (⟨#[44]⟩:ByteArray) h i)<|ALn (ep x0 (⟨#[44]⟩:ByteArray)) etS<|AL g<|AC (p:=(a.map etI).length=(a.map etI).length) rfl<|AV (ψ:=fun k=>E.C k 127 [.one (.s .own () 1 (a.map etI))]=some [(false,[.s .own () 1 ((eh a).map etI)])]) (sB a j)<|AV (ψ:=fun k=>E.C k 129 [.one (.s .own () 1 ((eh a).map etI))]=some [(false,[.any]),(false,[.s .own () 1 ((jS (eh a)).map etI)])]) (wI (eh a) l)<|AV (ψ:=fun k=>E.C k 128 [.one (.s .own () 1 ((jS (eh a)).map etI))]=some [(false,[.any]),(false,[.s .own () 1 ((id (jS (eh a))).map etI)])]) (AF (jS (eh a)))<|AN))
def Marks (lo hi:Int)(a:List Bool)(l:List Int):Prop :=(a.length:Int)=hi+1∧(∀x∈l,lo≤x∧x≤hi)∧∀j:Nat,(j:Int)≤hi→(a[j]?=some true↔(j:Int)∈l)
theorem Marks.add {lo hi:Int}{a:List Bool}{l:List Int}(h:Marks lo hi a l)(i:0≤lo){x:Int}(b:lo≤x∧x≤hi):Marks lo hi (a.set x.toNat true) (l++[x]):=by
 obtain⟨c,d,f⟩:=h;refine⟨by rw[WO];exact c,fun y hy => ?_,fun j g => ?_⟩
 ·rcases UG.1 hy with hy|hy
  ·exact d y hy
  ·rw[Ui]at hy;subst hy;exact b
 ·rw[UG,Ui,List.getElem?_set];by_cases e:x.toNat=j
  ·rw[Ub e,Ub (by omega)];exact⟨fun _ => .inr (by omega),fun _=>rfl⟩
  ·rw[Un e,f j g];exact⟨.inl,fun h=>h.resolve_right (by omega)⟩
theorem JO (lo hi b st:Int)(m:0≤lo)(f:hi≤59)(hb:b≤hi)(o:1≤st)(p:st≤1000000000):∀(k n:Nat)(a:Int)(c:List Bool)(l:List Int),(b-a+1).toNat≤k→k<n→lo≤a→a≤1000000100→Marks lo hi c l→l.length+k≤1000000000 →
  ∃d l',jx b st n c a=some (.x2 d)∧gX b st n l a=some (.x2 l')∧Marks lo hi d l'∧l'.length≤l.length+k∧(a≤b∨l≠[]→l'≠[])
 |k,0,a,c,l,_,r,_,_,_,_=>by omega
 |k,n+1,a,c,l,z,r,A,s,i,B=>by
  unfold jx gX;by_cases q:a≤b
  ·obtain⟨g,t,_⟩:=gU (l:=c) (k:=a) (by have:=i.1;omega);obtain⟨k,rfl⟩:∃j,k=j+1:=⟨k-1,by omega⟩
   have e:IntKind.wrap .i64 (a+st)=a+st:=em _ (by omega) (by omega);obtain⟨d,l',u,v,w,x,y⟩:=JO lo hi b st m f hb o p k n (a+st) (c.set a.toNat true) (l++[a]) (by omega) (by omega) (by omega) (by omega) (i.add m (by omega)) (by simp;omega);refine⟨d,l',?_,?_,w,by simp at x;omega,fun _=>y (.inr (by simp))⟩
   ·rw[Uj q,Uo,t,Ua,e];exact u
   ·rw[Uj q,Uo,Ub (by simp;omega),e];exact v
  ·rw[Uk q];exact⟨c,l,rfl,rfl,i,by omega,fun h=>h.resolve_left q⟩
theorem A3 (lo hi:Int)(s:0≤lo)(k:lo≤hi)(m:hi≤59):∀(f:List ByteArray)(i:Nat)(c:List Bool)(l:List Int),(∀p∈f,p.size≤2000000)→Marks lo hi c l→l.length+f.length*60≤1000000000 →
  (eW lo hi f i c=some (.ret [] false)∧dD lo hi f i l=some (.ret [] false)) ∨
  ∃d l',eW lo hi f i c=some (.x0 d)∧dD lo hi f i l=some (.x0 l')∧Marks lo hi d l'∧l'.length≤l.length+f.length*60∧(f≠[]∨l≠[]→l'≠[])
 |[],i,c,l,_,o,_ => .inr ⟨c,l,rfl,rfl,o,by simp,fun h=>h.resolve_left fun h=>h rfl⟩
 |p::f,i,c,l,t,o,u=>by
  have q:=t p (by simp);obtain⟨-,g⟩:=F0 p lo hi q;obtain⟨-,j⟩:=FZ p lo hi q;unfold eW dD;simp only[Ub q];cases e:xr p lo hi with
  |none =>rw[e]at g j;have g:(dn p lo hi).2.2.2=false:=g;have j:(dm p lo hi).2.2.2=false:=j;rw[g,j];exact .inl ⟨rfl,rfl⟩
  |some x =>
   obtain⟨a,b,st⟩:=x;rw[e]at g j;have g:dn p lo hi=(a,b,st,true):=g;have j:dm p lo hi=(a,b,st,true):=j;obtain⟨v,a2,a3,a4,a5⟩:=Q7 k e;simp only[UK]at u;obtain⟨d,l',w,y,z,D,A⟩:=JO lo hi b st s m a3 a4 a5 60 9223372036854775808 a c l (by omega) (by omega) v (by omega) o (by omega);rw[g,j];simp only[Uo,w,y,Ua];rcases A3 lo hi s k m f (i+1) d l' (fun p r=>t p (by simp[r])) z (by omega)with h|⟨n,l2,g1,B,g3,g4,C⟩
   ·exact .inl h
   ·exact .inr ⟨n,l2,g1,B,g3,by rw[UK];omega,fun _=>C (.inr (A (.inl a2)))⟩
theorem N5 (hi:Int)(c:List Bool)(hh:(c.length:Int)=hi+1)(d:hi≤59):∀(k n:Nat)(x:Int)(v:List Int),(hi-x+1).toNat≤k→k<n→0≤x→x≤100→v.length+k≤1000→v.Pairwise (· < ·)→(∀y∈v,y<x) →
  ∃w,fS hi c n v x=some (.x4 w)∧w.Pairwise (· < ·)∧∀y,y∈w↔y∈v∨(x≤y∧y≤hi∧c[y.toNat]?=some true)
 |k,0,x,v,_,u,_,_,_,_,_=>by omega
 |k,n+1,x,v,C,u,D,A,F,i,m=>by
  unfold fS;by_cases q:x≤hi
  ·obtain⟨g,t,_⟩:=gU (l:=c) (k:=x) (by omega);have f:=(oI t).2;obtain⟨k,rfl⟩:∃j,k=j+1:=⟨k-1,by omega⟩
   have e:inc x=x+1:=rD _ (by omega) (by omega);rw[Uj q,Uo,t,Ua];cases g with
   |true =>
    obtain⟨w,o,p,r⟩:=N5 hi c hh d k n (x+1) (v++[x]) (by omega) (by omega) (by omega) (by omega) (by simp;omega)
     (by rw[WT];exact⟨i,by simp,fun a B b hb=>by rw[Ui]at hb;subst hb;exact m a B⟩)
     (fun y s=>by rcases UG.1 s with h|h;have:=m y h;omega;rw[Ui]at h;omega)
    refine⟨w,by rw[Uo,Ub (by simp;omega),e];exact o,p,fun y => ?_⟩;rw[r,UG,Ui];constructor
    ·rintro((h|rfl)|h)
     ·exact .inl h
     ·exact .inr ⟨Ve _,q,f⟩
     ·exact .inr ⟨by omega,h.2⟩
    ·rintro(h|h)
     ·exact .inl (.inl h)
     ·by_cases z:y=x
      ·exact .inl (.inr z)
      ·exact .inr ⟨by omega,h.2⟩
   |false =>
    obtain⟨w,o,p,r⟩:=N5 hi c hh d k n (x+1) v (by omega) (by omega) (by omega) (by omega) (by omega) i (fun y s=>by have:=m y s;omega);refine⟨w,by rw[Uu,e];exact o,p,fun y => ?_⟩;rw[r];constructor
    ·rintro(h|h)
     ·exact .inl h
     ·exact .inr ⟨by omega,h.2⟩
    ·rintro(h|h)
     ·exact .inl h
     ·by_cases z:y=x
      ·subst z;rw[f]at h;exact absurd h.2.2 (by simp)
      ·exact .inr ⟨by omega,h.2⟩
  ·rw[Uk q];exact⟨v,rfl,i,fun y=>⟨.inl,fun h=>h.resolve_right fun h=>by omega⟩⟩
theorem xv (lo hi:Int):∀(l:List Int)(a:Int),l.Pairwise (· < ·)→(∀x∈l,a≤x∧x≤hi)→a≤hi+1→(l.length:Int)≤hi+1-a
 |[],a,_,_,h=>by simp;omega
 |x::l,a,b,c,h=>by rw[W0]at b;have:=c x (by simp);have:=xv lo hi l (x+1) b.2 (fun y d=>⟨by have:=b.1 y d;omega,(c y (by simp[d])).2⟩) (by omega);simp;omega
noncomputable def ah (s:ByteArray)(lo hi:Int):List Int×Bool:=(jg s lo hi).getD ([],false)
noncomputable def aS (s:ByteArray)(i:Int):List Int×Bool:=ah s (aK i).1 (aK i).2
def OD (lo hi:Int)(r:List Int×Bool):Prop:=(r.2=false∧r.1=[])∨(r.2=true∧r.1.Pairwise (· < ·)∧r.1≠[]∧(∀x∈r.1,lo≤x∧x≤hi)∧r.1.length≤60)
theorem BT (s:ByteArray)(lo hi:Int)(hs:s.size≤2000000)(hb:0≤lo∧lo≤hi∧hi≤59):jg s lo hi=some (ah s lo hi)∧OD lo hi (ah s lo hi)∧∀i,aK i=(lo,hi)→iO s i=some (ah s lo hi):=by
 obtain⟨M,C,f⟩:=hb;have g:inc hi=hi+1:=rD _ (by omega) (by omega);have S:=BQ 44 (tx s);rw[←dy]at S;have B:aj s 44=(b6 44 (tx s)).map ofTx:=rfl;have N:(aj s 44).length≤2000001:=by rw[B,UH];omega
 have D:∀p∈aj s 44,p.size≤2000000:=fun p O=>by rw[B]at O;obtain⟨x,k,rfl⟩:=Uw.1 O;have:=BR _ _ x k;rw[rE];rw[←dy]at this;omega
 have U:Marks lo hi (List.replicate (inc hi).toNat false) []:=by refine⟨by rw[List.length_replicate,g];omega,fun x k=>(by cases k),fun j hj => ?_⟩;rw[WC,Ub (by omega)];simp
 have F:aj s 44≠[]:=by obtain⟨x,xs,e⟩:=jp 44 (tx s);rw[B,e];simp
 have hc:((0:Int)≤44∧(44:Int)<256)=True:=Wk (by decide);have pre:(s.size≤2000000)=True:=Wk hs;have P:∀i,aK i=(lo,hi)→∀r,(dD lo hi (aj s 44) 0 []).bind (fun y=>match y with
   | .ret m n=>(some (m,n))
   | .x0 a=>(if a.length<4611686018427387904 then if(eh a).length≤9223372036854775807 then some (id (jS (eh a)),true)else none else none))=some r→iO s i=some r:=fun i hi r V=>by
  unfold iO;rw[Ub (by omega),Ub (by decide),DN, ←B,Ub (by omega),hi];exact V
 have d:jg s lo hi=(eW lo hi (aj s 44) 0 (List.replicate (inc hi).toNat false)).bind fun y=>match y with
   | .ret o u=>(some (o,u))
   | .x0 a=>((fS hi a 9223372036854775808 ([]) lo).bind fun y=>match y with
    | .x4 c=>(some (c,true))):=by
  unfold jg;simp only[hc,pre,UP];rw[Ub (by omega),Ub (by omega)]
 rcases A3 lo hi M C f (aj s 44) 0 _ [] D U (by simp;omega)with⟨G,H⟩|⟨I,l,G,H,v,Q,W⟩
 ·rw[G]at d;have A:jg s lo hi=some ([],false):=d;have e:ah s lo hi=([],false):=by unfold ah;rw[A];rfl
  rw[e];exact⟨A,.inl ⟨rfl,rfl⟩,fun i hi=>P i hi _ (by rw[H];rfl)⟩
 ·obtain⟨w,X,J,Y⟩:=N5 hi I v.1 f 60 9223372036854775808 lo [] (by omega) (by omega) M (by omega) (by simp) (by simp) (fun y Z=>by cases Z);have K:∀y,y∈w↔y∈l:=fun y=>by
   rw[Y];constructor
   ·rintro(h|⟨a1,a2,a3⟩)
    ·cases h
    ·have:=(v.2.2 y.toNat (by omega)).1 a3
     rwa [show((y.toNat:Nat):Int)=y by omega]at this
   ·intro h;have b:=v.2.1 y h;refine .inr ⟨b.1,b.2,(v.2.2 y.toNat (by omega)).2 ?_⟩
    rwa [show((y.toNat:Nat):Int)=y by omega]
  obtain⟨c1,c2⟩:=Kg l;have e3:jS (eh l)=w:=Ak c1 J fun y=>(c2 y).trans (K y).symm
  rw[G,Ua]at d;simp only[X,Ua]at d;have e:ah s lo hi=(w,true):=by unfold ah;rw[d];rfl
  rw[e];have R:∀x∈w,lo≤x∧x≤hi:=fun x k=>v.2.1 x ((K x).1 k)
  have wl:=xv lo hi w lo J R (by omega);refine⟨d,.inr ⟨rfl,J,fun z => ?_,R,by show w.length≤60;omega⟩,fun i hi=>P i hi _ ?_⟩
  ·have L:=W (.inl F);cases q:l with
   |nil=>exact L q
   |cons x t=>have:=(K x).2 (by rw[q];simp);rw[show w=[]from z]at this;cases this
  ·rw[H,Ua];simp only;have sl:(eh l).length=l.length:=List.length_mergeSort l;rw[sl,Ub (by simp at Q;omega),Ub (by simp at Q;omega),e3];rfl
theorem GV (s:ByteArray)(i:Int)(hs:s.size≤2000000):iO s i=some (aS s i):=(BT s _ _ hs (ON i)).2.2 i rfl
theorem eG (x0:ByteArray)(a:Int)(x2:Int)(h:x0.size≤2000000)(hb:0≤a∧a≤x2∧x2≤59):Does E 84 [T7 x0,T5 a,T5 x2] [(false,[.s .own () 1 (((ah x0 a x2).1).map etI)]),T3 ((ah x0 a x2).2)]:=by exact JX x0 a x2 _ (BT x0 a x2 h hb).1
theorem D6 (x0:ByteArray)(a:Int)(h:x0.size≤2000000):Does E 113 [T7 x0,T5 a] [(false,[.s .own () 1 (((aS x0 a).1).map etI)]),T3 ((aS x0 a).2)]:=by exact Eo x0 a _ (GV x0 a h)
theorem cD (x0:ByteArray)(a:Int)(h:x0.size≤2000000){c:Bool}(b:(aS x0 a).2=c):Does E 113 [T7 x0,T5 a] [(false,[.s .own () 1 (((aS x0 a).1).map etI)]),T3 c]:=by rw[←b];exact D6 x0 a h
end
end Go.Proofs.YtoanlngmbcnglaaGreatDoor.Am
