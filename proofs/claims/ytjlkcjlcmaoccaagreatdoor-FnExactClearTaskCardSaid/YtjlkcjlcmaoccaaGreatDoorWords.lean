/- Numbers in words. -/
import Derived.Test.YtjlkcjlcmaoccaaGreatDoorEnv
import Derived.Test.YtjlkcjlcmaoccaaGreatDoorShelf
namespace Go.Proofs.YtjlkcjlcmaoccaaGreatDoor.Am
open Go
set_option linter.unusedVariables false
set_option linter.unusedSimpArgs false
section
open Go.Proofs Classical
set_option maxRecDepth 100000
structure GCron where
 f0:List Int
 f1:List Int
 f2:List Int
 f3:List Int
 f4:List Int
def GCron.t (k:Kd)(x:GCron):List (T Unit):=[.s k () 1 (x.f0.map etI),.s k () 1 (x.f1.map etI),.s k () 1 (x.f2.map etI),.s k () 1 (x.f3.map etI),.s k () 1 (x.f4.map etI)]
instance:ae GCron:=⟨fun x=>ae.sm x.f0∧ae.sm x.f1∧ae.sm x.f2∧ae.sm x.f3∧ae.sm x.f4⟩
instance:Wf GCron:=⟨fun x=>Wf.wf x.f0∧Wf.wf x.f1∧Wf.wf x.f2∧Wf.wf x.f3∧Wf.wf x.f4⟩
structure GTask where
 f0:ByteArray
 f1:ByteArray
 f2:Int
 f3:Bool
 f4:List ByteArray
def GTask.t (k:Kd)(x:GTask):List (T Unit):=[tS x.f0,tS x.f1,tI x.f2,tB x.f3,.s k () 1 (x.f4.map etS)]
instance:ae GTask:=⟨fun x=>ae.sm x.f0∧ae.sm x.f1∧ae.sm x.f4⟩
instance:Wf GTask:=⟨fun x=>Wf.wf x.f0∧Wf.wf x.f1∧Wf.wf x.f4⟩
structure GDag where
 f0:ByteArray
 f1:ByteArray
 f2:Int
 f3:Int
 f4:Bool
 f5:List GTask
def GDag.t (k q:Kd)(x:GDag):List (T Unit):=[tS x.f0,tS x.f1,tI x.f2,tI x.f3,tB x.f4,.s k () 5 (x.f5.map (GTask.t q))]
instance:ae GDag:=⟨fun x=>ae.sm x.f0∧ae.sm x.f1∧ae.sm x.f5⟩
instance:Wf GDag:=⟨fun x=>Wf.wf x.f0∧Wf.wf x.f1∧Wf.wf x.f5⟩
structure LDag where
 f0:ByteArray
 f1:ByteArray
 f2:Int
 f3:Int
 f4:Bool
 f5:List GTask
def LDag.t (k q:Kd)(x:LDag):List (T Unit):=[tS x.f0,tS x.f1,tI x.f2,tI x.f3,tB x.f4,.s k () 5 (x.f5.map (GTask.t q))]
instance:ae LDag:=⟨fun x=>ae.sm x.f0∧ae.sm x.f1∧ae.sm x.f5⟩
instance:Wf LDag:=⟨fun x=>Wf.wf x.f0∧Wf.wf x.f1∧Wf.wf x.f5⟩
structure GSpan where
 f0:Int
 f1:Int
def GSpan.t (x:GSpan):List (T Unit):=[tI x.f0,tI x.f1]
instance:ae GSpan:=⟨fun x=>True⟩
instance:Wf GSpan:=⟨fun x=>True⟩
structure GState where
 f0:Int
 f1:Int
 f2:Int
 f3:Int
def GState.t (x:GState):List (T Unit):=[tI x.f0,tI x.f1,tI x.f2,tI x.f3]
instance:ae GState:=⟨fun x=>True⟩
instance:Wf GState:=⟨fun x=>True⟩
structure GRun where
 f0:ByteArray
 f1:GSpan
 f2:Int
 f3:List GState
def GRun.t (k:Kd)(x:GRun):List (T Unit):=[tS x.f0]++GSpan.t x.f1++[tI x.f2]++[.s k () 4 (x.f3.map GState.t)]
instance:ae GRun:=⟨fun x=>ae.sm x.f0∧ae.sm x.f1∧ae.sm x.f3⟩
instance:Wf GRun:=⟨fun x=>Wf.wf x.f0∧Wf.wf x.f1∧Wf.wf x.f3⟩
structure LRun where
 f0:ByteArray
 f1:GSpan
 f2:Int
 f3:List GState
def LRun.t (k:Kd)(x:LRun):List (T Unit):=[tS x.f0]++GSpan.t x.f1++[tI x.f2]++[.s k () 4 (x.f3.map GState.t)]
instance:ae LRun:=⟨fun x=>ae.sm x.f0∧ae.sm x.f1∧ae.sm x.f3⟩
instance:Wf LRun:=⟨fun x=>Wf.wf x.f0∧Wf.wf x.f1∧Wf.wf x.f3⟩
def dY (s a:ByteArray):List ByteArray:=Lib.splitB a 0 (Lib.countB s a) s
def ba (xs:List ByteArray)(a:ByteArray):ByteArray:=⟨(Lib.join (xs.map (·.data.toList)) a.data.toList).toArray⟩
def br (n:Int):ByteArray:=⟨(Lib.itoa n).toArray⟩
def aK (s a:ByteArray):ByteArray×ByteArray×Bool:=(⟨(Lib.cut s.data.toList a.data.toList).1.toArray⟩,⟨(Lib.cut s.data.toList a.data.toList).2.1.toArray⟩,(Lib.cut s.data.toList a.data.toList).2.2)
def bQ (s p:ByteArray):ByteArray×Bool:=(⟨(Lib.trimPrefix s.data.toList p.data.toList).toArray⟩,Lib.hasPrefix s.data.toList p.data.toList)
noncomputable def cJ (l:List Int):List Int:=l.mergeSort fun x y=>decide (x≤y)
noncomputable def ja (l:List Int):List Int:=Lib.compact l
theorem kL (x0 a:ByteArray)(b:x0.size<4294967281)(c:1≤a.size):Does E 120 [O2 x0,O2 a] [(false,[.s .own () 1 ((dY x0 a).map etS)])]:=by
 refine Does.orc ⟨0,fun k _ => ?_⟩;have o:∀C us,E.orc C 120 us=As us:=fun _ _=>rfl
 refine(o _ _).trans ?_;show(if _ then _ else _)=_;rw[O6 ⟨b,c⟩];rfl
theorem eB (x0 a:ByteArray)(b:x0.size<4294967281):Does E 133 [O2 x0,O2 a] [OZ (aK x0 a).1,OZ (aK x0 a).2.1,OY (aK x0 a).2.2]:=by
 refine Does.orc ⟨0,fun k _ => ?_⟩;have o:∀C us,E.orc C 133 us=IA us:=fun _ _=>rfl
 refine(o _ _).trans ?_;show(if _ then _ else _)=_;rw[O6 b];rfl
theorem bJ (x0 a:ByteArray)  : Does E 131 [O2 x0,O2 a] [OZ (bQ x0 a).1,OY (bQ x0 a).2]:=by
 refine Does.orc ⟨0,fun k _ => ?_⟩;have o:∀C us,E.orc C 131 us=qb us:=fun _ _=>rfl
 refine(o _ _).trans ?_;rfl
theorem AK (x0:Int)(h : -9223372036854775808≤x0∧x0≤9223372036854775807):Does E 125 [O0 x0] [OZ (br x0)]:=by
 refine Does.orc ⟨0,fun k _ => ?_⟩;have o:∀C us,E.orc C 125 us=DU us:=fun _ _=>rfl
 refine(o _ _).trans ?_;show(if _ then _ else _)=_;rw[O6 h];rfl
theorem gY (x0:List ByteArray)(a:ByteArray)(h:x0.length≤140737488355328∧(ba x0 a).size≤140737488355328):Does E 111 [.one (.s .far () 1 (x0.map etS)),O2 a] [OZ (ba x0 a)]:=by
 refine Does.orc ⟨0,fun k _ => ?_⟩;have o:∀C us,E.orc C 111 us=DV us:=fun _ _=>rfl
 refine(o _ _).trans ?_;show(rp _).bind _=_;rw[Av,O5,O6 ⟨h.1,h.2⟩];rfl
theorem mb (x0:List Int)(h:x0.length<4611686018427387904):Does E 52 [.one (.s .own () 1 (x0.map etI))] [(false,[.s .own () 1 ((cJ x0).map etI)])]:=by
 refine Does.orc ⟨0,fun k _ => ?_⟩;have o:∀C us,E.orc C 52 us=DZ us:=fun _ _=>rfl
 refine(o _ _).trans ?_;show(lf _).bind _=_;rw[qj,O5,O6 h];rfl
theorem t8 (x0:List Int)(h:x0.length≤9223372036854775807):Does E 124 [.one (.s .own () 1 (x0.map etI))] [(false,[.any]),(false,[.s .own () 1 ((ja x0).map etI)])]:=by
 refine Does.orc ⟨0,fun k _ => ?_⟩;have o:∀C us,E.orc C 124 us=ue us:=fun _ _=>rfl
 refine(o _ _).trans ?_;show(lf _).bind _=_;rw[qj,O5,O6 h];rfl
theorem xy (x0:List Int)  : Does E 123 [.one (.s .own () 1 (x0.map etI))] [(false,[.any]),(false,[.s .own () 1 ((id x0).map etI)])]:=by
 refine Does.orc ⟨0,fun k _ => ?_⟩;have o:∀C us,E.orc C 123 us=DQ us:=fun _ _=>rfl
 refine(o _ _).trans ?_;show(lf _).bind _=_;rw[qj,O5];rfl
def ah (x a b:Int):Bool:=decide (x≥a)&&decide (x≤b)
theorem G7 {α:Type}{l:List α}{k:Int}(h:ah k 0 (IntKind.wrap .i64 ((l.length:Int)-1))=true)(a:l.length≤1050000):0≤k∧k<(l.length:Int):=by unfold ah at h;rw[dn _ (by omega) (by omega)]at h;simp only[PA,P9]at h;omega
theorem eO {α:Type}{l:List α}{k:Int}(h:0≤k∧k<(l.length:Int)):∃x,am l k=some x∧x∈l:=by unfold am;rw[O6 h.1,Pb (by omega)];exact⟨_,rfl,Qv _⟩
noncomputable def xb (x0 a x2:Int):Option (Bool):=cond (decide (x0≥a)) (some (decide (x0≤x2))) (some (false))
theorem Lj (x0 a x2:Int):Ans (xb x0 a x2) (fun r=>Does E 18 [O0 x0,O0 a,O0 x2] [OY r]):=by
 unfold xb;apply OR<;>intro b
 ·exact OO (DP Tryz.f18 [.b true] (AC b<|AN))
 ·exact OO (DP Tryz.f18 [.b false] (AC b<|AN))
theorem ai (x0:Int)(a:Int)(x2:Int):Does E 18 [O0 x0,O0 a,O0 x2] [OY (ah x0 a x2)]:=by exact Lj x0 a x2 _ (by unfold xb ah;cases decide (x0≥a)<;>rfl)
noncomputable def sA (x0 a x2:Int):Option (Bool):=cond (decide (x0≥a)) (some (decide (x0≤x2))) (some (false))
theorem GX (x0 a x2:Int):Ans (sA x0 a x2) (fun r=>Does E 46 [O0 x0,O0 a,O0 x2] [OY r]):=by
 unfold sA;apply OR<;>intro b
 ·exact OO (DP Tryz.f46 [.b true] (AC b<|AN))
 ·exact OO (DP Tryz.f46 [.b false] (AC b<|AN))
theorem aA (x0:Int)(a:Int)(x2:Int):Does E 46 [O0 x0,O0 a,O0 x2] [OY (ah x0 a x2)]:=by exact GX x0 a x2 _ (by unfold sA ah;cases decide (x0≥a)<;>rfl)
noncomputable def kv (x0:Int):Option (Int):=cond (decide (x0<(10:Int))) (some (IntKind.wrap .u8 (IntKind.wrap .i64 ((48:Int)+x0)))) (some (IntKind.wrap .u8 (IntKind.wrap .i64 ((IntKind.wrap .i64 ((97:Int)+x0))-(10:Int)))))
theorem Dk (x0:Int):Ans (kv x0) (fun r=>Does E 119 [O0 x0] [(false,[tY r])]):=by
 unfold kv;apply OR<;>intro a
 ·exact OO (DP Tryz.f119 [.b true] (AC a<|AN))
 ·exact OO (DP Tryz.f119 [.b false] (AC a<|AN))
theorem MG {x:Int}(a:0≤x)(b:x<256):IntKind.wrap .u8 x=x:=by simp only[IntKind.wrap,IntKind.bits,IntKind.signed];simp;omega
noncomputable def cX (x:Int):Int:=(kv x).getD 0
theorem EH (d:Nat)(h:d<10):cX (d:Int)=48+(d:Int):=by unfold cX kv;rw[Ph (by omega),Pk,Rc,dn _ (by omega) (by omega),MG (by omega) (by omega)]
theorem u3 (x0:Int):Does E 119 [O0 x0] [(false,[tY (cX x0)])]:=by exact Dk x0 _ (by unfold cX kv;cases decide (x0<10)<;>rfl)
noncomputable def sr (x0:Int):Option (ByteArray):=if -9223372036854775808≤x0∧x0≤9223372036854775807 then some (br x0)else none
theorem GS (x0:Int):Ans (sr x0) (fun r=>Does E 110 [O0 x0] [OZ r]):=by unfold sr;refine OT (fun a => ?_);exact OO (DP Tryz.f110 [.ret [OZ (br x0)]] (AD (AK x0 a)<|AN))
theorem sa (x0:Int)(h : -9223372036854775808≤x0∧x0≤9223372036854775807):Does E 110 [O0 x0] [OZ (br x0)]:=by exact GS x0 _ (by unfold sr;rw[O6 h])
inductive wZ where|x0 (v4:ByteArray)
def jz (v0:Int)(v3:Bool)(v4:ByteArray):US:=stL 30 [(0,O0 v0),(3,O1 v3),(4,O2 v4)]
def lS (v3:Bool)(a:ByteArray):US:=stL 30 [(3,O1 v3),(4,O2 a)]
abbrev rj:US→Exit→US→Prop:=Round E 104 (av Tryz.f104 0)
def FN (v0:Int)(v3:Bool)(v4:ByteArray):wZ→Prop| .x0 a=>Loops E 104 (av Tryz.f104 0) (jz v0 v3 v4) (.exit 0) (lS v3 a)
noncomputable def fY  : Nat→Int→Bool→ByteArray→Option wZ| 0,_,_,_=>none|n+1,v0,v3,v4=>cond (v0 != 0) (cond (decide ((Int.tmod v0 (10:Int))<(0:Int))) (if(strOfNums ([cX (IntKind.wrap .i64 (0-(Int.tmod v0 10)))])).size+v4.size≤maxStr then fY n (IntKind.wrap .i64 (Int.tdiv v0 10)) v3 ((strOfNums ([cX (IntKind.wrap .i64 (0-(Int.tmod v0 10)))]))++v4)else none) (if(strOfNums ([cX (Int.tmod v0 10)])).size+v4.size≤maxStr then fY n (IntKind.wrap .i64 (Int.tdiv v0 10)) v3 ((strOfNums ([cX (Int.tmod v0 10)]))++v4)else none)) (some (.x0 v4))
theorem wY  (n:Nat):∀(v0:Int)(v3:Bool)(v4:ByteArray),Ans (fY n v0 v3 v4) (FN v0 v3 v4):=by
 induction n with
 |zero=>intros;exact Ans.none
 |succ n d =>
  intro v0 v3 v4;unfold fY;apply OR<;>intro a
  ·apply OR<;>intro e
   ·refine OT (fun b => ?_);have r:rj (jz v0 v3 v4) .normal (jz (IntKind.wrap .i64 (Int.tdiv v0 10)) v3 ((strOfNums ([cX (IntKind.wrap .i64 (0-(Int.tmod v0 10)))]))++v4)):=RP [.b true,.no,.b true,.ret [(false,[tY (cX (IntKind.wrap .i64 (0-(Int.tmod v0 10))))])],.val (.string (strOfNums ([cX (IntKind.wrap .i64 (0-(Int.tmod v0 10)))]))),.val (.string ((strOfNums ([cX (IntKind.wrap .i64 (0-(Int.tmod v0 10)))]))++v4))] (AC a<|AC e<|AD (u3 (IntKind.wrap .i64 (0-(Int.tmod v0 10))))<|AC (p:=(dF (((([cX (IntKind.wrap .i64 (0-(Int.tmod v0 10)))]).map etY).drop 0).take (([cX (IntKind.wrap .i64 (0-(Int.tmod v0 10)))]).map etY).length)).map strOfNums=some (strOfNums ([cX (IntKind.wrap .i64 (0-(Int.tmod v0 10)))]))) (by simp only[PV,PQ];exact Gf)<|AC (gH (tab:=E.tab) (t:=9) b)<|AN);exact(d (IntKind.wrap .i64 (Int.tdiv v0 10)) v3 ((strOfNums ([cX (IntKind.wrap .i64 (0-(Int.tmod v0 10)))]))++v4)).mono fun y c=>by cases y<;>exact OP r c
   ·refine OT (fun b => ?_);have r:rj (jz v0 v3 v4) .normal (jz (IntKind.wrap .i64 (Int.tdiv v0 10)) v3 ((strOfNums ([cX (Int.tmod v0 10)]))++v4)):=RP [.b true,.no,.b false,.ret [(false,[tY (cX (Int.tmod v0 10))])],.val (.string (strOfNums ([cX (Int.tmod v0 10)]))),.val (.string ((strOfNums ([cX (Int.tmod v0 10)]))++v4))] (AC a<|AC e<|AD (u3 (Int.tmod v0 10))<|AC (p:=(dF (((([cX (Int.tmod v0 10)]).map etY).drop 0).take (([cX (Int.tmod v0 10)]).map etY).length)).map strOfNums=some (strOfNums ([cX (Int.tmod v0 10)]))) (by simp only[PV,PQ];exact Gf)<|AC (gH (tab:=E.tab) (t:=9) b)<|AN);exact(d (IntKind.wrap .i64 (Int.tdiv v0 10)) v3 ((strOfNums ([cX (Int.tmod v0 10)]))++v4)).mono fun y c=>by cases y<;>exact OP r c
  ·exact OO (OQ (show rj (jz v0 v3 v4) (.exit 0) (lS v3 v4)from RP [.b false] (AC a<|AN)) (by intro h;cases h))
noncomputable def pd (x0:Int):Option (ByteArray):=
  cond (x0==(0:Int))
   (some ((⟨#[48]⟩:ByteArray)))
   (cond (decide (x0<(0:Int)))
    ((fY 9223372036854775808 x0 true ByteArray.empty).bind fun y=>match y with
     | .x0 a=>(if(⟨#[45]⟩:ByteArray).size+a.size≤maxStr then some ((⟨#[45]⟩:ByteArray)++a)else none))
    ((fY 9223372036854775808 x0 false ByteArray.empty).bind fun y=>match y with
     | .x0 a=>(some (a))))
theorem Ho (x0:Int):Ans (pd x0) (fun r=>Does E 104 [O0 x0] [OZ r]):=by
 unfold pd;apply OR<;>intro c
 ·exact OO (DP Tryz.f104 [.b true] (AC c<|AN))
 ·apply OR<;>intro e
  ·refine OS (fun y b => ?_);replace b:=wY 9223372036854775808 x0 true ByteArray.empty y b;cases y with
   |x0 a =>have d:=b;refine OT (fun f => ?_);exact OO (DP Tryz.f104 [.b false,.b true,.lp (.exit 0) (lS true a),.val (.string ((⟨#[45]⟩:ByteArray)++a))] (AC c<|AC e<|AL d<|AC (gH (tab:=E.tab) (t:=9) f)<|AN))
  ·refine OS (fun y b => ?_);replace b:=wY 9223372036854775808 x0 false ByteArray.empty y b;cases y with
   |x0 a =>have d:=b;exact OO (DP Tryz.f104 [.b false,.b false,.lp (.exit 0) (lS false a)] (AC c<|AC e<|AL d<|AN))
theorem Ac (d:Nat)(h:d<10):strOfNums [cX (d:Int)]=ofTx [UInt8.ofNat (48+d)]:=by
 rw[EH d h];unfold strOfNums ofTx;have:(48+(d:Int)).toNat=48+d:=by omega
 simp[this]
def vP (u:Nat):List UInt8:=if u=0 then []else Lib.decDigits u
theorem Kg (u:Nat)(h:0<u):vP u=vP (u/10)++[UInt8.ofNat (48+u % 10)]:=by unfold vP;rw[Pj (by omega),GA u h]
theorem LN (u:Nat)(h:u<10 ^ 19):(vP u).length≤19:=by
 unfold vP;split
 ·simp
 ·exact uh 18 u h
theorem Cd (b:Bool):∀(n:Nat)(v:Int)(s:List UInt8), -9223372036854775808≤v→v≤9223372036854775807→v.natAbs<10 ^ n→s.length+n≤100→∀m,n<m→fY m v b (ofTx s)=some (.x0 (ofTx (vP v.natAbs++s)))
 | 0,v,s,_,_,h,_,m,i=>by
  obtain⟨m,rfl⟩:∃k,m=k+1:=⟨m-1,by omega⟩
  have:v=0:=by simpa using h
  subst this;rfl
 |n+1,v,s,o,p,h,hs,m,i=>by
  obtain⟨m,rfl⟩:∃k,m=k+1:=⟨m-1,by omega⟩
  unfold fY;by_cases z:v=0
  ·subst z;rfl
  ·have hz:(v != 0)=true:=by simpa using z
   rw[hz,Pk];have a:0<v.natAbs:=by omega
   have hd:v.natAbs % 10<10:=Nat.mod_lt _ (by omega);have f:(Int.tdiv v 10).natAbs=v.natAbs/10:=by rw[Int.natAbs_tdiv];rfl
   have g:IntKind.wrap .i64 (Int.tdiv v 10)=Int.tdiv v 10:=dn _ (by omega) (by omega);have j:(Int.tmod v 10).natAbs=v.natAbs % 10:=by rw[Int.natAbs_tmod];rfl
   have d:=Cd b n (Int.tdiv v 10) ([UInt8.ofNat (48+v.natAbs % 10)]++s) (by omega) (by omega) (by rw[f];rw[Nat.pow_succ]at h;omega) (by simp;omega) m (by omega);rw[f, ←QX, ←Kg _ a]at d;have sz:∀l:List UInt8,(ofTx l).size=l.length:=fun l=>dm _
   by_cases c:Int.tmod v 10<0
   ·have e:IntKind.wrap .i64 (0-Int.tmod v 10)=((v.natAbs % 10:Nat):Int):=by rw[dn _ (by omega) (by omega)];omega
    rw[Ph c,Pk,e,Ac _ hd,O6 (by rw[sz,sz];simp[maxStr];omega),g,oK];exact d
   ·have e:Int.tmod v 10=((v.natAbs % 10:Nat):Int):=by omega
    rw[Pg c,Pt,e,Ac _ hd,O6 (by rw[sz,sz];simp[maxStr];omega),g,oK];exact d
theorem Kf (x:Int)(h : -9223372036854775808≤x∧x≤9223372036854775807):pd x=some (br x):=by
 unfold pd br Lib.itoa;by_cases z:x=0
 ·subst z;show some _=some _;rw[Pj (by omega),Lib.decDigits,dif_pos (by simp)];rfl
 ·have hz:(x==0)=false:=by simpa using z
  have hb:x.natAbs<10 ^ 19:=by have:(10:Nat) ^ 19=10000000000000000000:=rfl;omega
  have a:=fun b=>Cd b 19 x [] h.1 h.2 hb (by simp) 9223372036854775808 (by omega)
  have d:ofTx []=ByteArray.empty:=rfl;rw[d]at a;have g:=LN _ hb;rw[hz,Pt,a,a];simp only[PF,O5];have sz:∀l:List UInt8,(ofTx l).size=l.length:=fun l=>dm _
  have hd:vP x.natAbs=Lib.decDigits x.natAbs:=by unfold vP;rw[Pj (by omega)]
  by_cases c:x<0
  ·have e:(⟨#[45]⟩:ByteArray)=ofTx [45]:=rfl;rw[Ph c,Pk,O6 c,e,O6 (by rw[sz,sz];simp[maxStr];omega),oK,hd];rfl
  ·have f:x.natAbs=x.toNat:=by omega
   rw[Pg c,Pt,Pj c,hd,f];rfl
theorem oY (x0:Int)(h : -9223372036854775808≤x0∧x0≤9223372036854775807):Does E 104 [O0 x0] [OZ (br x0)]:=by exact Ho x0 _ (Kf x0 h)
inductive xa where|ret (v2:List ByteArray) (v3:Bool)|x0 (v4:List ByteArray)
def cf (v0:ByteArray)(v4:List ByteArray)(v5 v6:Int):US:=stL 62 [(0,O2 v0),(4,.one (.s .own () 1 (v4.map etS))),(5,O0 v5),(6,O0 v6)]
def kS (a:List ByteArray)(b:Bool):US:=stL 62 [(2,.one (.s .own () 1 (a.map etS))),(3,O1 b)]
def lW (a:List ByteArray):US:=stL 62 [(4,.one (.s .own () 1 (a.map etS)))]
abbrev ge:US→Exit→US→Prop:=Round E 80 (av Tryz.f80 0)
def FU (v0:ByteArray)(v4:List ByteArray)(v5 v6:Int):xa→Prop| .ret a b=>Loops E 80 (av Tryz.f80 0) (cf v0 v4 v5 v6) .ret (kS a b)| .x0 c=>Loops E 80 (av Tryz.f80 0) (cf v0 v4 v5 v6) (.exit 0) (lW c)
noncomputable def c9 (v0:ByteArray):Nat→(List ByteArray)→Int→Int→Option xa| 0,_,_,_=>none|n+1,v4,v5,v6=>cond (decide (v6≤(v0.size:Int))) (cond (decide (v6<(v0.size:Int))) (if 0≤v6∧v6<(v0.size:Int)then cond (decide ((gJ v0 v6)<(32:Int))) (some (.ret ([]) false)) (cond (decide ((gJ v0 v6)>(126:Int))) (some (.ret ([]) false)) (cond ((gJ v0 v6) != 32) (c9 v0 n v4 v5 (inc v6)) (cond (decide (v5<v6)) (if 0≤v5∧v5≤v6∧v6≤(v0.size:Int)then if(v4.length+([v0.extract v5.toNat v6.toNat]).length)*16≤140737488355328∧v4.length+([v0.extract v5.toNat v6.toNat]).length≤4611686018427387904 then c9 v0 n (v4++([v0.extract v5.toNat v6.toNat])) (inc v6) (inc v6)else none else none) (c9 v0 n v4 (inc v6) (inc v6)))))else none) (cond (decide (v5<v6)) (if 0≤v5∧v5≤v6∧v6≤(v0.size:Int)then if(v4.length+([v0.extract v5.toNat v6.toNat]).length)*16≤140737488355328∧v4.length+([v0.extract v5.toNat v6.toNat]).length≤4611686018427387904 then c9 v0 n (v4++([v0.extract v5.toNat v6.toNat])) (inc v6) (inc v6)else none else none) (c9 v0 n v4 (inc v6) (inc v6)))) (some (.x0 v4))
theorem FT (v0:ByteArray)(n:Nat):∀(v4:List ByteArray)(v5 v6:Int),Ans (c9 v0 n v4 v5 v6) (FU v0 v4 v5 v6):=by
 induction n with
 |zero=>intros;exact Ans.none
 |succ n g =>
  intro v4 v5 v6;unfold c9;apply OR<;>intro d
  ·apply OR<;>intro b
   ·refine OT (fun a => ?_);apply OR<;>intro e
    ·exact OO (OQ (show ge (cf v0 v4 v5 v6) .ret (kS ([]) false)from RP [.b true,.b true,.b true] (AC d<|AC b<|AC a<|AC e<|AN)) (by intro h;cases h))
    ·apply OR<;>intro f
     ·exact OO (OQ (show ge (cf v0 v4 v5 v6) .ret (kS ([]) false)from RP [.b true,.b true,.b false,.b true] (AC d<|AC b<|AC a<|AC e<|AC a<|AC f<|AN)) (by intro h;cases h))
     ·apply OR<;>intro i
      ·have r:ge (cf v0 v4 v5 v6) .normal (cf v0 v4 v5 (inc v6)):=RP [.b true,.b true,.b false,.b false,.b true,.b true] (AC d<|AC b<|AC a<|AC e<|AC a<|AC f<|AC b<|AC a<|AC i<|AN);exact(g v4 v5 (inc v6)).mono fun y c=>by cases y<;>exact OP r c
      ·apply OR<;>intro j
       ·refine OT (fun k => ?_);refine OT (fun l => ?_);have r:ge (cf v0 v4 v5 v6) .normal (cf v0 (v4++([v0.extract v5.toNat v6.toNat])) (inc v6) (inc v6)):=RP [.b true,.b true,.b false,.b false,.b true,.b false,.b true,.rows ((v4++([v0.extract v5.toNat v6.toNat])).map etS)] (AC d<|AC b<|AC a<|AC e<|AC a<|AC f<|AC b<|AC a<|AC i<|AC j<|AC k<|AAp etS (fun _=>rfl) l<|AN);exact(g (v4++([v0.extract v5.toNat v6.toNat])) (inc v6) (inc v6)).mono fun y c=>by cases y<;>exact OP r c
       ·have r:ge (cf v0 v4 v5 v6) .normal (cf v0 v4 (inc v6) (inc v6)):=RP [.b true,.b true,.b false,.b false,.b true,.b false,.b false] (AC d<|AC b<|AC a<|AC e<|AC a<|AC f<|AC b<|AC a<|AC i<|AC j<|AN);exact(g v4 (inc v6) (inc v6)).mono fun y c=>by cases y<;>exact OP r c
   ·apply OR<;>intro a
    ·refine OT (fun e => ?_);refine OT (fun f => ?_);have r:ge (cf v0 v4 v5 v6) .normal (cf v0 (v4++([v0.extract v5.toNat v6.toNat])) (inc v6) (inc v6)):=RP [.b true,.b false,.b false,.b true,.rows ((v4++([v0.extract v5.toNat v6.toNat])).map etS)] (AC d<|AC b<|AC b<|AC a<|AC e<|AAp etS (fun _=>rfl) f<|AN);exact(g (v4++([v0.extract v5.toNat v6.toNat])) (inc v6) (inc v6)).mono fun y c=>by cases y<;>exact OP r c
    ·have r:ge (cf v0 v4 v5 v6) .normal (cf v0 v4 (inc v6) (inc v6)):=RP [.b true,.b false,.b false,.b false] (AC d<|AC b<|AC b<|AC a<|AN);exact(g v4 (inc v6) (inc v6)).mono fun y c=>by cases y<;>exact OP r c
  ·exact OO (OQ (show ge (cf v0 v4 v5 v6) (.exit 0) (lW v4)from RP [.b false] (AC d<|AN)) (by intro h;cases h))
noncomputable def pf (x0:ByteArray):Option ((List ByteArray)×Bool):=
  cond (decide ((x0.size:Int)>(600:Int)))
   (some (([]:List ByteArray),false))
   ((c9 x0 9223372036854775808 ([]) 0 0).bind fun y=>match y with
    | .ret b c=>(some (b,c))
    | .x0 a=>(cond (decide ((a.length:Int)>(10:Int)))
     (some (([]:List ByteArray),false))
     (some (a,true))))
theorem Hs (x0:ByteArray):Ans (pf x0) (fun r=>Does E 80 [O2 x0] [(false,[.s .own () 1 (r.1.map etS)]),OY r.2]):=by
 unfold pf;apply OR<;>intro d
 ·exact OO (DP Tryz.f80 [.b true] (AC d<|AN))
 ·refine OS (fun y e => ?_);replace e:=FT x0 9223372036854775808 ([]) 0 0 y e;cases y with
  |ret b c =>have f:=e;exact OO (DP Tryz.f80 [.b false,.lp .ret (kS b c)] (AC d<|AL f<|AN))
  |x0 a =>
   have f:=e;apply OR<;>intro g
   ·exact OO (DP Tryz.f80 [.b false,.lp (.exit 0) (lW a),O3 (a.length:Int),.b true] (AC d<|AL f<|ALn a etS<|AC g<|AN))
   ·exact OO (DP Tryz.f80 [.b false,.lp (.exit 0) (lW a),O3 (a.length:Int),.b false] (AC d<|AL f<|ALn a etS<|AC g<|AN))
inductive wn where|x2 (v5:List ByteArray)
def jr (v5 v28:List ByteArray)(a b:Int):US:=stL 45 [(5,.one (.s .own () 1 (v5.map etS))),(28,.one (.s .own () 1 (v28.map etS))),(29,O0 a),(30,O0 b)]
def lF (a:List ByteArray):US:=stL 45 [(5,.one (.s .own () 1 (a.map etS)))]
abbrev qS:US→Exit→US→Prop:=Round E 105 (av Tryz.f105 1)
def EV (v5 v28:List ByteArray)(a b:Int):wn→Prop| .x2 c=>Loops E 105 (av Tryz.f105 1) (jr v5 v28 a b) (.exit 2) (lF c)
noncomputable def fg  : List ByteArray→Nat→(List ByteArray)→Option wn|[],i,v5=>some (.x2 v5)|hd::rest,i,v5=>cond (!(hd.toList==ByteArray.empty.toList)) (if(v5.length+([hd]).length)*16≤140737488355328∧v5.length+([hd]).length≤4611686018427387904 then fg rest (i+1) (v5++([hd]))else none) (fg rest (i+1) v5)
theorem ET (v28:List ByteArray)(rest:List ByteArray):∀(i:Nat)(v5:List ByteArray),(v28).drop i=rest→v28.length≤9223372036854775807→Ans (fg rest i v5) (EV v5 v28 (v28.length:Int) (i:Int)):=by
 induction rest with
 |nil =>intro i v5 a c;have hb:=aZ a;unfold fg;exact OO (OQ (show qS (jr v5 v28 (v28.length:Int) (i:Int)) (.exit 2) (lF v5)from RP [.b false] (AC hb<|AN)) (by intro h;cases h))
 |cons hd rest e =>
  intro i v5 a c;have hb:=aT a;have f:=aU a c;have b:=aE a;have g:=aW a;unfold fg;apply OR<;>intro j
  ·refine OT (fun k => ?_);exact(e (i+1) (v5++([hd])) b c).mono fun y d=>by have r:qS (jr v5 v28 (v28.length:Int) (i:Int)) .normal (jr (v5++([hd])) v28 (v28.length:Int) (inc (i:Int))):=RP [.b true,.row (etS hd),.b true,.rows ((v5++([hd])).map etS)] (AC hb<|AG etS g<|AC j<|AAp etS (fun _=>rfl) k<|AN);rw[f]at r;cases y<;>exact OP r d
  ·exact(e (i+1) v5 b c).mono fun y d=>by have r:qS (jr v5 v28 (v28.length:Int) (i:Int)) .normal (jr v5 v28 (v28.length:Int) (inc (i:Int))):=RP [.b true,.row (etS hd),.b false] (AC hb<|AG etS g<|AC j<|AN);rw[f]at r;cases y<;>exact OP r d
inductive wk where|ret (v2:List ByteArray) (v3:Bool)|x0
def ik (v0:ByteArray)(v4:Int):US:=stL 45 [(0,O2 v0),(4,O0 v4)]
def kM (a:List ByteArray)(b:Bool):US:=stL 45 [(2,.one (.s .own () 1 (a.map etS))),(3,O1 b)]
def lE (v0:ByteArray):US:=stL 45 [(0,O2 v0)]
abbrev nN:US→Exit→US→Prop:=Round E 105 (av Tryz.f105 0)
def EU (v0:ByteArray)(v4:Int):wk→Prop| .ret a b=>Loops E 105 (av Tryz.f105 0) (ik v0 v4) .ret (kM a b)| .x0=>Loops E 105 (av Tryz.f105 0) (ik v0 v4) (.exit 0) (lE v0)
noncomputable def il  : List Int→Nat→Option wk|[],i=>some (.x0)|hd::rest,i=>cond (decide (hd<(32:Int))) (some (.ret ([]) false)) (cond (decide (hd>(126:Int))) (some (.ret ([]) false)) (il rest (i+1)))
theorem ES (v0:ByteArray)(rest:List Int):∀(i:Nat) ,(bY v0).drop i=rest→v0.size≤9223372036854775807→Ans (il rest i) (EU v0 (i:Int)):=by
 induction rest with
 |nil =>intro i a c;have hb:=qO a;unfold il;exact OO (OQ (show nN (ik v0 (i:Int)) (.exit 0) (lE v0)from RP [.b false] (AC hb<|AN)) (by intro h;cases h))
 |cons hd rest g =>
  intro i a c;have hb:=pr a;have j:=pu a c;have d:=aE a;have b:=tg a;obtain rfl:=tf a;unfold il;apply OR<;>intro e
  ·exact OO (OQ (show nN (ik v0 (i:Int)) .ret (kM ([]) false)from RP [.b true,.b true] (AC hb<|AC b<|AC e<|AN)) (by intro h;cases h))
  ·apply OR<;>intro f
   ·exact OO (OQ (show nN (ik v0 (i:Int)) .ret (kM ([]) false)from RP [.b true,.b false,.b true] (AC hb<|AC b<|AC e<|AC b<|AC f<|AN)) (by intro h;cases h))
   ·exact(g (i+1) d c).mono fun y k=>by have r:nN (ik v0 (i:Int)) .normal (ik v0 (inc (i:Int))):=RP [.b true,.b false,.b false] (AC hb<|AC b<|AC e<|AC b<|AC f<|AN);rw[j]at r;cases y<;>exact OP r k
noncomputable def o7 (x0:ByteArray):Option ((List ByteArray)×Bool):=
  cond (decide ((x0.size:Int)>(600:Int)))
   (some (([]:List ByteArray),false))
   (if x0.size≤9223372036854775807 then(il (bY x0) 0).bind fun y=>match y with
    | .ret b c=>(some (b,c))
    | .x0=>(if x0.size<4294967281 then if 1≤(⟨#[32]⟩:ByteArray).size then if(dY x0 (⟨#[32]⟩:ByteArray)).length≤9223372036854775807 then(fg (dY x0 (⟨#[32]⟩:ByteArray)) 0 ([])).bind fun y=>match y with
     | .x2 a=>(cond (decide ((a.length:Int)>(10:Int)))
      (some (([]:List ByteArray),false))
      (some (a,true)))else none else none else none)else none)
theorem GV (x0:ByteArray):Ans (o7 x0) (fun r=>Does E 105 [O2 x0] [(false,[.s .own () 1 (r.1.map etS)]),OY r.2]):=by
 unfold o7;apply OR<;>intro e
 ·exact OO (DP Tryz.f105 [.b true] (AC e<|AN))
 ·refine OT (fun g => ?_);refine OS (fun y b => ?_);replace b:=ES x0 (bY x0) 0 rfl g y b;cases y with
  |ret c d =>have f:=b;exact OO (DP Tryz.f105 [.b false,.lp .ret (kM c d)] (AC e<|AL f<|AN))
  |x0 =>
   have f:=b;refine OT (fun i => ?_);refine OT (fun j => ?_);refine OT (fun h => ?_);refine OS (fun y b => ?_);replace b:=ET (dY x0 (⟨#[32]⟩:ByteArray)) (dY x0 (⟨#[32]⟩:ByteArray)) 0 ([]) rfl h y b;cases y with
   |x2 a =>
    have k:=b;apply OR<;>intro l
    ·exact OO (DP Tryz.f105 [.b false,.lp (.exit 0) (lE x0),.ret [(false,[.s .own () 1 ((dY x0 (⟨#[32]⟩:ByteArray)).map etS)])],O3 ((dY x0 (⟨#[32]⟩:ByteArray)).length:Int),.lp (.exit 2) (lF a),O3 (a.length:Int),.b true] (AC e<|AL f<|AD (kL x0 (⟨#[32]⟩:ByteArray) i j)<|ALn (dY x0 (⟨#[32]⟩:ByteArray)) etS<|AL k<|ALn a etS<|AC l<|AN))
    ·exact OO (DP Tryz.f105 [.b false,.lp (.exit 0) (lE x0),.ret [(false,[.s .own () 1 ((dY x0 (⟨#[32]⟩:ByteArray)).map etS)])],O3 ((dY x0 (⟨#[32]⟩:ByteArray)).length:Int),.lp (.exit 2) (lF a),O3 (a.length:Int),.b false] (AC e<|AL f<|AD (kL x0 (⟨#[32]⟩:ByteArray) i j)<|ALn (dY x0 (⟨#[32]⟩:ByteArray)) etS<|AL k<|ALn a etS<|AC l<|AN))
def okB (b:UInt8):Bool:=decide (32≤b.toNat)&&decide (b.toNat≤126)
theorem K1 {b:UInt8}(h:b.toNat<32):okB b=false:=by unfold okB;rw[Pg (by omega)];rfl
theorem KZ {b:UInt8}(h:126<b.toNat):okB b=false:=by unfold okB;rw[Pg (by omega:¬b.toNat≤126),Q2]
theorem K0 {b:UInt8}(h:¬b.toNat<32)(a:¬ 126<b.toNat):okB b=true:=by unfold okB;rw[Ph (by omega),Ph (by omega)];rfl
def aC (x:ByteArray):Bool := !(x.toList==ByteArray.empty.toList)
noncomputable def aM (s:ByteArray):List ByteArray×Bool :=if 600<s.size then([],false)else if(tx s).all okB=true then(if 10<(((bR 32 (tx s)).map ofTx).filter aC).length then([],false)else(((bR 32 (tx s)).map ofTx).filter aC,true))else([],false)
theorem EJ (l:List UInt8):aC (ofTx l)= !l.isEmpty:=by unfold aC;rw[ko];have:tx ByteArray.empty=[]:=rfl;rw[this,tW];cases l<;>rfl
theorem Ar (s:ByteArray)(c:UInt8):dY s ⟨#[c]⟩=(bR c (tx s)).map ofTx:=HG s c
theorem qv (s:ByteArray):bY s=(tx s).map fun b=>(b.toNat:Int):=rfl
theorem El {s:ByteArray}{i:Nat}{b:UInt8}(h:(tx s)[i]?=some b):gJ s (i:Int)=(b.toNat:Int):=by
 have hi:i<s.size:=by
  rw[dm];rcases Pf i (tx s).length with g|g
  ·exact g
  ·rw[Pc g]at h;cases h
 have:=sR s i hi;rw[qv,Pp,h]at this;exact(QW this).symm
theorem K6:∀(l:List UInt8)(i:Nat),il (l.map fun b=>(b.toNat:Int)) i=some (if l.all okB=true then .x0 else .ret [] false)
 |[],i=>rfl
 |b::l,i=>by
  rw[Pv];unfold il;rw[K6 l (i+1),QJ];by_cases h:b.toNat<32
  ·rw[Ph (by omega),K1 h];rfl
  ·rw[Pg (by omega),Pt];by_cases a:126<b.toNat
   ·rw[Ph (by omega),KZ a];rfl
   ·rw[Pg (by omega),K0 h a];rfl
theorem Fw:∀(l:List ByteArray)(i:Nat)(v:List ByteArray),v.length+l.length≤4000000→fg l i v=some (.x2 (v++l.filter aC))
 |[],i,v,_=>by unfold fg;simp
 |x::l,i,v,h=>by
  simp only[PH]at h;unfold fg;have e:(!(x.toList==ByteArray.empty.toList))=aC x:=rfl;rw[e];cases q:aC x with
  |true =>rw[Pk,O6 (by simp;omega),Fw l (i+1) _ (by simp;omega),Qy,q];simp
  |false =>rw[Pt,Fw l (i+1) v (by omega),Qy,q];simp
theorem K7 (s:ByteArray):o7 s=some (aM s):=by
 unfold o7 aM;by_cases h:600<s.size
 ·rw[Ph (by omega),O6 h];rfl
 ·have a:=yw 32 (tx s);rw[←dm]at a;rw[Pg (by omega),Pj h,Pt,O6 (by omega),qv,K6];by_cases q:(tx s).all okB=true
  ·rw[O6 q,O6 q,O5];simp only;rw[O6 (by omega),O6 (by decide),Ar,O6 (by simp;omega),Fw _ _ _ (by simp;omega),O5];simp only[PG];by_cases r:10<(((bR 32 (tx s)).map ofTx).filter aC).length
   ·rw[Ph (by omega),O6 r];rfl
   ·rw[Pg (by omega),Pj r];rfl
  ·rw[Pj q,Pj q];rfl
theorem EK {l:List UInt8}{i:Nat}(h:i<l.length):∃b r,l.drop i=b::r∧l[i]?=some b∧l.drop (i+1)=r:=by refine⟨l[i],l.drop (i+1),Qq h,Pb h,rfl⟩
theorem K9 (s:ByteArray)(hs:s.size≤2000000):∀(m i a:Nat)(v:List ByteArray)(n:Nat),i+m=(tx s).length→m+1<n→a≤i→v.length+m≤2000000 →
  c9 s n v (a:Int) (i:Int)=some (if((tx s).drop i).all okB=true then .x0 (v++((ix (seg (tx s) a i) (bR 32 ((tx s).drop i))).map ofTx).filter aC)else .ret [] false)
 |m,i,a,v,n,hi,A,f,hv=>by
  obtain⟨n,rfl⟩:∃k,n=k+2:=⟨n-2,by omega⟩
  have u:=dm s;unfold c9;rw[Ph (by omega:(i:Int)≤(s.size:Int)),Pk];have c:inc (i:Int)=((i+1:Nat):Int):=by rw[fH _ (by omega) (by omega)];omega
  cases m with
  |zero =>
   have hd:(tx s).drop i=[]:=PW (by omega);have stop:∀w b,c9 s (n+1) w b ((i+1:Nat):Int)=some (.x0 w):=fun w b=>by unfold c9;rw[Pg (by omega)];rfl
   have hc:ix (seg (tx s) a i) (bR 32 ([]:List UInt8))=[seg (tx s) a i]:=by simp[bR,ix]
   have hf:([seg (tx s) a i].map ofTx).filter aC=if a=i then []else [s.extract a i]:=by
    rw[Pv,PO,Qy,EJ,Ie f (by omega),mp];by_cases q:a=i
    ·rw[O6 q,Ph q];rfl
    ·rw[Pj q,Pg q];rfl
   rw[Pg (by omega:¬(i:Int)<(s.size:Int)),Pt,c,hd,hc,hf,List.all_nil,O6 rfl];by_cases q:a=i
   ·rw[Pg (by omega),Pt,stop,O6 q,PF]
   ·rw[Ph (by omega),Pk,O6 (by omega),O6 (by simp;omega),stop,Pj q];rfl
  |succ m =>
   obtain⟨b,r,hd,j,x⟩:=EK (l:=tx s) (i:=i) (by omega);have hb:=El j;have d:=fun o p (y:o≤i+1) (z:p.length+m≤2000000)=>K9 s hs m (i+1) o p (n+1) (by omega) (by omega) y z
   rw[x]at d;rw[Ph (by omega:(i:Int)<(s.size:Int)),Pk,O6 (by omega),hb,c,hd,QJ];have bl:=b.toNat_lt;by_cases h:b.toNat<32
   ·rw[Ph (by omega:((b.toNat:Int)<32)),Pk,K1 h];rfl
   ·rw[Pg (by omega:¬((b.toNat:Int)<32)),Pt];by_cases t:126<b.toNat
    ·rw[Ph (by omega:((b.toNat:Int)>126)),Pk,KZ t];rfl
    ·rw[Pg (by omega:¬((b.toNat:Int)>126)),Pt,K0 h t,PJ];by_cases q:b=32
     ·subst q;have e:(((32:UInt8).toNat:Int) != 32)=false:=by decide
      rw[e,Pt,qL];have g:ix (seg (tx s) a i) ([]::bR 32 r)=seg (tx s) a i::bR 32 r:=by simp[ix]
      rw[g,Pv,Qy,EJ,Ie f (by omega)];have hz:ix (seg (tx s) (i+1) (i+1)) (bR 32 r)=bR 32 r:=by rw[ro];exact uo _ (iz _ _)
      by_cases q:a=i
      ·have:=d (i+1) v (by omega) (by omega);rw[hz]at this;rw[Pg (by omega),Pt,this,Ph q];rfl
      ·have:=d (i+1) (v++[s.extract a i]) (by omega) (by simp;omega);rw[hz]at this;rw[Ph (by omega),Pk,O6 (by omega),O6 (by simp;omega)];rw[show((a:Int).toNat)=a by omega,show((i:Int).toNat)=i by omega,this,Pg q,mp];simp
     ·have e:((b.toNat:Int) != 32)=true:=by rw[Se];intro h;exact q (Sc.1 (by show b.toNat=32;omega))
      rw[e,Pk,d a v (by omega) (by omega),nf q,Cn _ _ _ (iz _ _), ←F7 f j]
theorem K8 (s:ByteArray):pf s=some (aM s):=by
 unfold pf aM;by_cases h:600<s.size
 ·rw[Ph (by omega),O6 h];rfl
 ·have hz:ix (seg (tx s) 0 0) (bR 32 (tx s))=bR 32 (tx s):=by rw[ro];exact uo _ (iz _ _)
  have e:=K9 s (by omega) (tx s).length 0 0 [] 9223372036854775808 (by omega) (by rw[←dm];omega) (by omega) (by rw[←dm];simp;omega);rw[PQ,hz,PG]at e;rw[Pg (by omega),Pj h,Pt];refine(Pw (Option.bind · _) e).trans ?_;by_cases q:(tx s).all okB=true
  ·rw[O6 q,O6 q,O5];simp only;by_cases r:10<(((bR 32 (tx s)).map ofTx).filter aC).length
   ·rw[Ph (by omega),O6 r];rfl
   ·rw[Pg (by omega),Pj r];rfl
  ·rw[Pj q,Pj q];rfl
theorem sJ {s p:ByteArray}(h:p∈(aM s).1):p.size≤600:=by
 unfold aM at h;split at h
 ·cases h
 ·rename_i b;split at h
  ·split at h
   ·cases h
   ·obtain⟨x,a,rfl⟩:=Pu.1 (QO.1 h).1;have:=yy _ _ x a;rw[px];rw[←dm]at this;omega
  ·cases h
theorem Gv (x0:ByteArray):Does E 80 [O2 x0] [(false,[.s .own () 1 (((aM x0).1).map etS)]),OY ((aM x0).2)]:=by exact Hs x0 _ (K8 x0)
theorem mA (x0:ByteArray){b:Bool}(a:(aM x0).2=b):Does E 80 [O2 x0] [(false,[.s .own () 1 (((aM x0).1).map etS)]),OY b]:=by rw[←a];exact Gv x0
theorem Gr (x0:ByteArray):Does E 105 [O2 x0] [(false,[.s .own () 1 (((aM x0).1).map etS)]),OY ((aM x0).2)]:=by exact GV x0 _ (K7 x0)
theorem mz (x0:ByteArray){b:Bool}(a:(aM x0).2=b):Does E 105 [O2 x0] [(false,[.s .own () 1 (((aM x0).1).map etS)]),OY b]:=by rw[←a];exact Gr x0
inductive rk where|ret (v2:Int) (v3:Bool)|x0 (v4:Int)
def eK (v0:ByteArray)(v4 v5:Int):US:=stL 42 [(0,O2 v0),(4,O0 v4),(5,O0 v5)]
def iw (a:Int)(b:Bool):US:=stL 42 [(2,O0 a),(3,O1 b)]
def gf (v0:ByteArray)(a:Int):US:=stL 42 [(0,O2 v0),(4,O0 a)]
abbrev kf:US→Exit→US→Prop:=Round E 118 (av Tryz.f118 0)
def yT (v0:ByteArray)(v4 v5:Int):rk→Prop| .ret a b=>Loops E 118 (av Tryz.f118 0) (eK v0 v4 v5) .ret (iw a b)| .x0 c=>Loops E 118 (av Tryz.f118 0) (eK v0 v4 v5) (.exit 0) (gf v0 c)
noncomputable def eL (v0:ByteArray):List Int→Nat→Int→Option rk|[],i,v4=>some (.x0 v4)|hd::rest,i,v4=>cond (decide (hd<(48:Int))) (some (.ret 0 false)) (cond (decide (hd>(57:Int))) (some (.ret 0 false)) (eL v0 rest (i+1) (IntKind.wrap .i64 ((IntKind.wrap .i64 ((IntKind.wrap .i64 ((10:Int)*v4))+(IntKind.wrap .i64 hd)))-(48:Int)))))
theorem yS (v0:ByteArray)(rest:List Int):∀(i:Nat)(v4:Int),(bY v0).drop i=rest→v0.size≤9223372036854775807→Ans (eL v0 rest i v4) (yT v0 v4 (i:Int)):=by
 induction rest with
 |nil =>intro i v4 a c;have hb:=qO a;unfold eL;exact OO (OQ (show kf (eK v0 v4 (i:Int)) (.exit 0) (gf v0 v4)from RP [.b false] (AC hb<|AN)) (by intro h;cases h))
 |cons hd rest g =>
  intro i v4 a c;have hb:=pr a;have j:=pu a c;have d:=aE a;have b:=tg a;obtain rfl:=tf a;unfold eL;apply OR<;>intro e
  ·exact OO (OQ (show kf (eK v0 v4 (i:Int)) .ret (iw 0 false)from RP [.b true,.b true] (AC hb<|AC b<|AC e<|AN)) (by intro h;cases h))
  ·apply OR<;>intro f
   ·exact OO (OQ (show kf (eK v0 v4 (i:Int)) .ret (iw 0 false)from RP [.b true,.b false,.b true] (AC hb<|AC b<|AC e<|AC b<|AC f<|AN)) (by intro h;cases h))
   ·exact(g (i+1) (IntKind.wrap .i64 ((IntKind.wrap .i64 ((IntKind.wrap .i64 ((10:Int)*v4))+(IntKind.wrap .i64 (gJ v0 (i:Int)))))-(48:Int))) d c).mono fun y k=>by have r:kf (eK v0 v4 (i:Int)) .normal (eK v0 (IntKind.wrap .i64 ((IntKind.wrap .i64 ((IntKind.wrap .i64 ((10:Int)*v4))+(IntKind.wrap .i64 (gJ v0 (i:Int)))))-(48:Int))) (inc (i:Int))):=RP [.b true,.b false,.b false] (AC hb<|AC b<|AC e<|AC b<|AC f<|AC b<|AN);rw[j]at r;cases y<;>exact OP r k
noncomputable def kT (x0:ByteArray):Option (Int×Bool):=
  cond (decide ((x0.size:Int)>(10:Int)))
   (some (0,false))
   (if x0.size≤9223372036854775807 then(eL x0 (bY x0) 0 0).bind fun y=>match y with
    | .ret b c=>(some (b,c))
    | .x0 a=>(cond (decide (a>(1000000000:Int)))
     (some (0,false))
     (if -9223372036854775808≤a∧a≤9223372036854775807 then cond (!((br a).toList==x0.toList))
      (some (0,false))
      (some (a,true))else none))else none)
theorem Ao (x0:ByteArray):Ans (kT x0) (fun r=>Does E 118 [O2 x0] [OX r.1,OY r.2]):=by
 unfold kT;apply OR<;>intro b
 ·exact OO (DP Tryz.f118 [.b true] (AC b<|AN))
 ·refine OT (fun g => ?_);refine OS (fun y f => ?_);replace f:=yS x0 (bY x0) 0 0 rfl g y f;cases y with
  |ret c d =>have e:=f;exact OO (DP Tryz.f118 [.b false,.lp .ret (iw c d)] (AC b<|AL e<|AN))
  |x0 a =>
   have e:=f;apply OR<;>intro h
   ·exact OO (DP Tryz.f118 [.b false,.lp (.exit 0) (gf x0 a),.b true] (AC b<|AL e<|AC h<|AN))
   ·refine OT (fun i => ?_);apply OR<;>intro j
    ·exact OO (DP Tryz.f118 [.b false,.lp (.exit 0) (gf x0 a),.b false,.ret [OZ (br a)],.b true] (AC b<|AL e<|AC h<|AD (oY a i)<|AC j<|AN))
    ·exact OO (DP Tryz.f118 [.b false,.lp (.exit 0) (gf x0 a),.b false,.ret [OZ (br a)],.b false] (AC b<|AL e<|AC h<|AD (oY a i)<|AC j<|AN))
inductive qT where|ret (v2:Int) (v3:Bool)|x0 (v4:Int)
def eG (v0:ByteArray)(v4 v5:Int):US:=stL 47 [(0,O2 v0),(4,O0 v4),(5,O0 v5)]
def iu (a:Int)(b:Bool):US:=stL 47 [(2,O0 a),(3,O1 b)]
def fU (v0:ByteArray)(a:Int):US:=stL 47 [(0,O2 v0),(4,O0 a)]
abbrev jV:US→Exit→US→Prop:=Round E 132 (av Tryz.f132 0)
def yI (v0:ByteArray)(v4 v5:Int):qT→Prop| .ret a b=>Loops E 132 (av Tryz.f132 0) (eG v0 v4 v5) .ret (iu a b)| .x0 c=>Loops E 132 (av Tryz.f132 0) (eG v0 v4 v5) (.exit 0) (fU v0 c)
noncomputable def eH (v0:ByteArray):List Int→Nat→Int→Option qT|[],i,v4=>some (.x0 v4)|hd::rest,i,v4=>cond (decide (hd<(48:Int))) (some (.ret 0 false)) (cond (decide (hd>(57:Int))) (some (.ret 0 false)) (eH v0 rest (i+1) (IntKind.wrap .i64 ((IntKind.wrap .i64 (v4*(10:Int)))+(IntKind.wrap .i64 (IntKind.wrap .u8 (hd-(48:Int))))))))
theorem yH (v0:ByteArray)(rest:List Int):∀(i:Nat)(v4:Int),(bY v0).drop i=rest→v0.size≤9223372036854775807→Ans (eH v0 rest i v4) (yI v0 v4 (i:Int)):=by
 induction rest with
 |nil =>intro i v4 a c;have hb:=qO a;unfold eH;exact OO (OQ (show jV (eG v0 v4 (i:Int)) (.exit 0) (fU v0 v4)from RP [.b false] (AC hb<|AN)) (by intro h;cases h))
 |cons hd rest g =>
  intro i v4 a c;have hb:=pr a;have j:=pu a c;have d:=aE a;have b:=tg a;obtain rfl:=tf a;unfold eH;apply OR<;>intro e
  ·exact OO (OQ (show jV (eG v0 v4 (i:Int)) .ret (iu 0 false)from RP [.b true,.b true] (AC hb<|AC b<|AC e<|AN)) (by intro h;cases h))
  ·apply OR<;>intro f
   ·exact OO (OQ (show jV (eG v0 v4 (i:Int)) .ret (iu 0 false)from RP [.b true,.b false,.b true] (AC hb<|AC b<|AC e<|AC b<|AC f<|AN)) (by intro h;cases h))
   ·exact(g (i+1) (IntKind.wrap .i64 ((IntKind.wrap .i64 (v4*(10:Int)))+(IntKind.wrap .i64 (IntKind.wrap .u8 ((gJ v0 (i:Int))-(48:Int)))))) d c).mono fun y k=>by have r:jV (eG v0 v4 (i:Int)) .normal (eG v0 (IntKind.wrap .i64 ((IntKind.wrap .i64 (v4*(10:Int)))+(IntKind.wrap .i64 (IntKind.wrap .u8 ((gJ v0 (i:Int))-(48:Int)))))) (inc (i:Int))):=RP [.b true,.b false,.b false] (AC hb<|AC b<|AC e<|AC b<|AC f<|AC b<|AN);rw[j]at r;cases y<;>exact OP r k
noncomputable def kN (x0:ByteArray):Option (Int×Bool):=
  cond ((x0.size:Int)==(0:Int))
   (some (0,false))
   (cond (decide ((x0.size:Int)>(10:Int)))
    (some (0,false))
    (if x0.size≤9223372036854775807 then(eH x0 (bY x0) 0 0).bind fun y=>match y with
     | .ret b c=>(some (b,c))
     | .x0 a=>(cond (decide (a>(1000000000:Int)))
      (some (0,false))
      (if -9223372036854775808≤a∧a≤9223372036854775807 then cond (!((br a).toList==x0.toList))
       (some (0,false))
       (some (a,true))else none))else none))
theorem zJ (x0:ByteArray):Ans (kN x0) (fun r=>Does E 132 [O2 x0] [OX r.1,OY r.2]):=by
 unfold kN;apply OR<;>intro b
 ·exact OO (DP Tryz.f132 [.b true] (AC b<|AN))
 ·apply OR<;>intro c
  ·exact OO (DP Tryz.f132 [.b false,.b true] (AC b<|AC c<|AN))
  ·refine OT (fun h => ?_);refine OS (fun y g => ?_);replace g:=yH x0 (bY x0) 0 0 rfl h y g;cases y with
   |ret d e =>have f:=g;exact OO (DP Tryz.f132 [.b false,.b false,.lp .ret (iu d e)] (AC b<|AC c<|AL f<|AN))
   |x0 a =>
    have f:=g;apply OR<;>intro i
    ·exact OO (DP Tryz.f132 [.b false,.b false,.lp (.exit 0) (fU x0 a),.b true] (AC b<|AC c<|AL f<|AC i<|AN))
    ·refine OT (fun j => ?_);apply OR<;>intro k
     ·exact OO (DP Tryz.f132 [.b false,.b false,.lp (.exit 0) (fU x0 a),.b false,.ret [OZ (br a)],.b true] (AC b<|AC c<|AL f<|AC i<|AD (sa a j)<|AC k<|AN))
     ·exact OO (DP Tryz.f132 [.b false,.b false,.lp (.exit 0) (fU x0 a),.b false,.ret [OZ (br a)],.b false] (AC b<|AC c<|AL f<|AC i<|AD (sa a j)<|AC k<|AN))
def lP:List UInt8→Int→Option Int|[],v=>some v|b::l,v=>if 48≤b.toNat∧b.toNat≤57 then lP l (10*v+((b.toNat:Int)-48))else none
noncomputable def aa (s:ByteArray):Int×Bool :=
 if 10<s.size then(0,false)else match lP (tx s) 0 with
  |none=>(0,false)
  |some n=>if 1000000000<n then(0,false)else if tx (br n)=tx s then(n,true)else(0,false)
theorem ya:∀(l:List UInt8)(v:Int)(k:Nat)(r:Int),0≤v→v<10 ^ k→lP l v=some r→0≤r∧r<10 ^ (k+l.length)
 |[],v,k,r,a,c,h=>by cases h;exact⟨a,c⟩
 |b::l,v,k,r,a,c,h=>by
  unfold lP at h;split at h
  ·rename_i hb;have:=ya l (10*v+((b.toNat:Int)-48)) (k+1) r (by omega) (by rw[Int.pow_succ];omega) h;rw[PH,show k+(l.length+1)=k+1+l.length by omega];exact this
  ·cases h
theorem FC {k n:Nat}(h:k≤n):(10:Int) ^ k≤10 ^ n:=by
 have:=Nat.pow_le_pow_right (n:=10) (by omega) h;have e:∀m:Nat,10 ^ m=((10 ^ m:Nat):Int):=fun m=>by simp
 rw[e,e];omega
theorem FE (s:ByteArray):∀(l:List UInt8)(i:Nat)(v:Int)(k:Nat),0≤v→v<10 ^ k→k+l.length≤10 →
  eL s (l.map fun b=>(b.toNat:Int)) i v=some (match lP l v with|some r => .x0 r|none => .ret 0 false) ∧
  eH s (l.map fun b=>(b.toNat:Int)) i v=some (match lP l v with|some r => .x0 r|none => .ret 0 false)
 |[],i,v,k,_,_,_=>⟨rfl,rfl⟩
 |b::l,i,v,k,f,g,a=>by
  have j:=FC (show k≤10 by omega);have c:(10:Int) ^ 10=10000000000:=by decide
  rw[Pv];unfold eL eH lP;have bl:=b.toNat_lt;by_cases h:b.toNat<48
  ·rw[Ph (by omega:((b.toNat:Int)<48)),Pj (by omega)];exact⟨rfl,rfl⟩
  ·rw[Pg (by omega:¬((b.toNat:Int)<48)),Pt,Pt];by_cases m:57<b.toNat
   ·rw[Ph (by omega:((b.toNat:Int)>57)),Pj (by omega)];exact⟨rfl,rfl⟩
   ·rw[Pg (by omega:¬((b.toNat:Int)>57)),O6 (by omega),Pt,Pt];have d:IntKind.wrap .i64 (IntKind.wrap .i64 (IntKind.wrap .i64 (10*v)+IntKind.wrap .i64 (b.toNat:Int))-48)=10*v+((b.toNat:Int)-48):=by rw[dn (10*v) (by omega) (by omega),dn (b.toNat:Int) (by omega) (by omega),dn (10*v+(b.toNat:Int)) (by omega) (by omega),dn _ (by omega) (by omega)];omega
    have e:IntKind.wrap .i64 (IntKind.wrap .i64 (v*10)+IntKind.wrap .i64 (IntKind.wrap .u8 ((b.toNat:Int)-48)))=10*v+((b.toNat:Int)-48):=by rw[MG (by omega) (by omega),dn (v*10) (by omega) (by omega),dn ((b.toNat:Int)-48) (by omega) (by omega),dn _ (by omega) (by omega)];omega
    rw[d,e];simp only[PH]at a;exact FE s l (i+1) _ (k+1) (by omega) (by rw[Int.pow_succ];omega) (by omega)
theorem sK {s:ByteArray}(h:¬ 10<s.size){r:Int}(a:lP (tx s) 0=some r):0≤r∧r<10000000000:=by
 have:=ya (tx s) 0 0 r (by omega) (by decide) a;have c:=FC (show 0+(tx s).length≤10 by rw[←dm];omega);have b:(10:Int) ^ 10=10000000000:=by decide
 omega
theorem Le (s:ByteArray):kT s=some (aa s):=by
 unfold kT aa;by_cases h:10<s.size
 ·rw[Ph (by omega),O6 h];rfl
 ·obtain⟨e, -⟩:=FE s (tx s) 0 0 0 (by omega) (by decide) (by rw[←dm];omega);rw[Pg (by omega),Pj h,Pt,O6 (by omega),qv,e];cases q:lP (tx s) 0 with
  |none=>rfl
  |some n =>
   obtain⟨a,b⟩:=sK h q;simp only[O5];by_cases z:1000000000<n
   ·rw[Ph (by omega),O6 z];rfl
   ·rw[Pg (by omega),Pj z,Pt,O6 (by omega),ko];by_cases y:tx (br n)=tx s
    ·rw[Ph y,O6 y];rfl
    ·rw[Pg y,Pj y];rfl
theorem Ld (s:ByteArray):kN s=some (aa s):=by
 unfold kN aa;by_cases hz:s.size=0
 ·have b:tx s=[]:=List.eq_nil_of_length_eq_zero (by rw[←dm];exact hz);have a:((s.size:Int)==0)=true:=by rw[hz];rfl
  rw[a,Pk,Pj (by omega),b];unfold lP;simp only;have:¬tx (br 0)=[]:=by unfold br Lib.itoa;rw[Pj (by omega),Lib.decDigits,dif_pos (by simp)];simp[tx]
  rw[Pj (by omega),Pj this]
 have a:((s.size:Int)==0)=false:=by rw[P8];omega
 rw[a,Pt];by_cases h:10<s.size
 ·rw[Ph (by omega),O6 h];rfl
 ·obtain⟨-,e⟩:=FE s (tx s) 0 0 0 (by omega) (by decide) (by rw[←dm];omega);rw[Pg (by omega),Pj h,Pt,O6 (by omega),qv,e];cases q:lP (tx s) 0 with
  |none=>rfl
  |some n =>
   obtain⟨c,d⟩:=sK h q;simp only[O5];by_cases z:1000000000<n
   ·rw[Ph (by omega),O6 z];rfl
   ·rw[Pg (by omega),Pj z,Pt,O6 (by omega),ko];by_cases y:tx (br n)=tx s
    ·rw[Ph y,O6 y];rfl
    ·rw[Pg y,Pj y];rfl
theorem JC (s:ByteArray):0≤(aa s).1∧(aa s).1≤1000000000:=by
 unfold aa;split
 ·exact⟨Qe _,by decide⟩
 ·rename_i h;split
  ·exact⟨Qe _,by decide⟩
  ·rename_i n q;obtain⟨a,b⟩:=sK h q;split
   ·exact⟨Qe _,by decide⟩
   ·split
    ·exact⟨a,by show n≤_;omega⟩
    ·exact⟨Qe _,by decide⟩
theorem Cy:∀{l:List UInt8}{b:UInt8}(v:Int),b∈l→¬(48≤b.toNat∧b.toNat≤57)→lP l v=none
 |x::l,b,v,h,hb=>by
  unfold lP;rcases PD.1 h with rfl|h
  ·rw[Pj hb]
  ·split
   ·exact Cy _ h hb
   ·rfl
theorem x9 {s:ByteArray}{b:UInt8}(h:b∈tx s)(hb:¬(48≤b.toNat∧b.toNat≤57)):aa s=(0,false):=by unfold aa;rw[Cy 0 h hb];split<;>rfl
theorem nA (x0:ByteArray):Does E 118 [O2 x0] [OX ((aa x0).1),OY ((aa x0).2)]:=by exact Ao x0 _ (Le x0)
theorem ay (x0:ByteArray){b:Bool}(a:(aa x0).2=b):Does E 118 [O2 x0] [OX ((aa x0).1),OY b]:=by rw[←a];exact nA x0
theorem ry (x0:ByteArray):Does E 132 [O2 x0] [OX ((aa x0).1),OY ((aa x0).2)]:=by exact zJ x0 _ (Ld x0)
theorem bq (x0:ByteArray){b:Bool}(a:(aa x0).2=b):Does E 132 [O2 x0] [OX ((aa x0).1),OY b]:=by rw[←a];exact ry x0
inductive vp where|x0 (v5:List ByteArray)
def fB (v0:ByteArray)(v1:Int)(v5:List ByteArray)(v6 v7:Int):US:=stL 36 [(0,O2 v0),(1,.one (tY v1)),(5,.one (.s .own () 1 (v5.map etS))),(6,O0 v6),(7,O0 v7)]
def om (a:List ByteArray):US:=stL 36 [(5,.one (.s .own () 1 (a.map etS)))]
abbrev mP:US→Exit→US→Prop:=Round E 101 (av Tryz.f101 0)
def Ds (v0:ByteArray)(v1:Int)(v5:List ByteArray)(v6 v7:Int):vp→Prop| .x0 a=>Loops E 101 (av Tryz.f101 0) (fB v0 v1 v5 v6 v7) (.exit 0) (om a)
noncomputable def dM (v0:ByteArray)(v1:Int):Nat→(List ByteArray)→Int→Int→Option vp| 0,_,_,_=>none|n+1,v5,v6,v7=>cond (decide (v7≤(v0.size:Int))) (cond (v7==(v0.size:Int)) (if 0≤v6∧v6≤v7∧v7≤(v0.size:Int)then if(v5.length+([v0.extract v6.toNat v7.toNat]).length)*16≤140737488355328∧v5.length+([v0.extract v6.toNat v7.toNat]).length≤4611686018427387904 then dM v0 v1 n (v5++([v0.extract v6.toNat v7.toNat])) (inc v7) (inc v7)else none else none) (if 0≤v7∧v7<(v0.size:Int)then cond ((gJ v0 v7)==v1) (if 0≤v6∧v6≤v7∧v7≤(v0.size:Int)then if(v5.length+([v0.extract v6.toNat v7.toNat]).length)*16≤140737488355328∧v5.length+([v0.extract v6.toNat v7.toNat]).length≤4611686018427387904 then dM v0 v1 n (v5++([v0.extract v6.toNat v7.toNat])) (inc v7) (inc v7)else none else none) (dM v0 v1 n v5 v6 (inc v7))else none)) (some (.x0 v5))
theorem Dr (v0:ByteArray)(v1:Int)(n:Nat):∀(v5:List ByteArray)(v6 v7:Int),Ans (dM v0 v1 n v5 v6 v7) (Ds v0 v1 v5 v6 v7):=by
 induction n with
 |zero=>intros;exact Ans.none
 |succ n e =>
  intro v5 v6 v7;unfold dM;apply OR<;>intro b
  ·apply OR<;>intro f
   ·refine OT (fun c => ?_);refine OT (fun d => ?_);have r:mP (fB v0 v1 v5 v6 v7) .normal (fB v0 v1 (v5++([v0.extract v6.toNat v7.toNat])) (inc v7) (inc v7)):=RP [.b true,.b true,.rows ((v5++([v0.extract v6.toNat v7.toNat])).map etS)] (AC b<|AC f<|AC c<|AAp etS (fun _=>rfl) d<|AN);exact(e (v5++([v0.extract v6.toNat v7.toNat])) (inc v7) (inc v7)).mono fun y a=>by cases y<;>exact OP r a
   ·refine OT (fun c => ?_);apply OR<;>intro d
    ·refine OT (fun g => ?_);refine OT (fun i => ?_);have r:mP (fB v0 v1 v5 v6 v7) .normal (fB v0 v1 (v5++([v0.extract v6.toNat v7.toNat])) (inc v7) (inc v7)):=RP [.b true,.b false,.b true,.rows ((v5++([v0.extract v6.toNat v7.toNat])).map etS)] (AC b<|AC f<|AC c<|AC d<|AC g<|AAp etS (fun _=>rfl) i<|AN);exact(e (v5++([v0.extract v6.toNat v7.toNat])) (inc v7) (inc v7)).mono fun y a=>by cases y<;>exact OP r a
    ·have r:mP (fB v0 v1 v5 v6 v7) .normal (fB v0 v1 v5 v6 (inc v7)):=RP [.b true,.b false,.b false] (AC b<|AC f<|AC c<|AC d<|AN);exact(e v5 v6 (inc v7)).mono fun y a=>by cases y<;>exact OP r a
  ·exact OO (OQ (show mP (fB v0 v1 v5 v6 v7) (.exit 0) (om v5)from RP [.b false] (AC b<|AN)) (by intro h;cases h))
noncomputable def oo (x0:ByteArray)(b:Int):Option ((List ByteArray)):=
  (dM x0 b 9223372036854775808 ([]) 0 0).bind fun y=>match y with
   | .x0 a=>(some (a))
theorem F3 (x0:ByteArray)(b:Int):Ans (oo x0 b) (fun r=>Does E 101 [O2 x0,.one (tY b)] [(false,[.s .own () 1 (r.map etS)])]):=by
 unfold oo;refine OS (fun y c => ?_);replace c:=Dr x0 b 9223372036854775808 ([]) 0 0 y c;cases y with
 |x0 a =>have d:=c;exact OO (DP Tryz.f101 [.lp (.exit 0) (om a)] (AL d<|AN))
noncomputable def ak (s:ByteArray)(c:Int):List ByteArray:=(bR (UInt8.ofNat c.toNat) (tx s)).map ofTx
theorem Lp (s:ByteArray)(c:UInt8)(hs:s.size≤2000000):∀(m i a:Nat)(v:List ByteArray)(n:Nat),i+m=(tx s).length→m+1<n→a≤i→v.length+m≤2000000 →
  dM s (c.toNat:Int) n v (a:Int) (i:Int)=some (.x0 (v++(ix (seg (tx s) a i) (bR c ((tx s).drop i))).map ofTx))
 |m,i,a,v,n,hi,A,t,hv=>by
  obtain⟨n,rfl⟩:∃k,n=k+2:=⟨n-2,by omega⟩
  have u:=dm s;unfold dM;rw[Ph (by omega:(i:Int)≤(s.size:Int)),Pk];have d:inc (i:Int)=((i+1:Nat):Int):=by rw[fH _ (by omega) (by omega)];omega
  cases m with
  |zero =>
   have hd:(tx s).drop i=[]:=PW (by omega);have stop:∀w b,dM s (c.toNat:Int) (n+1) w b ((i+1:Nat):Int)=some (.x0 w):=fun w b=>by unfold dM;rw[Pg (by omega)];rfl
   have hc:ix (seg (tx s) a i) (bR c ([]:List UInt8))=[seg (tx s) a i]:=by simp[bR,ix]
   have e:((i:Int)==(s.size:Int))=true:=by rw[QM];omega
   rw[e,Pk,O6 (by omega),O6 (by simp;omega),d,stop,hd,hc,show((a:Int).toNat)=a by omega,show((i:Int).toNat)=i by omega,mp];rfl
  |succ m =>
   obtain⟨b,r,hd,j,x⟩:=EK (l:=tx s) (i:=i) (by omega);have hb:=El j;have f:=fun o p (y:o≤i+1) (z:p.length+m≤2000000)=>Lp s c hs m (i+1) o p (n+1) (by omega) (by omega) y z
   rw[x]at f;have e:((i:Int)==(s.size:Int))=false:=by rw[P8];omega
   rw[e,Pt,O6 (by omega),hb,d,hd];by_cases q:b=c
   ·subst q;have g:ix (seg (tx s) a i) ([]::bR b r)=seg (tx s) a i::bR b r:=by simp[ix]
    have hz:ix (seg (tx s) (i+1) (i+1)) (bR b r)=bR b r:=by rw[ro];exact uo _ (iz _ _)
    have:=f (i+1) (v++[s.extract a i]) (by omega) (by simp;omega);rw[hz]at this;rw[beq_self_eq_true,Pk,O6 (by omega),O6 (by simp;omega),qL,g];rw[show((a:Int).toNat)=a by omega,show((i:Int).toNat)=i by omega,this,mp];simp
   ·have e:((b.toNat:Int)==(c.toNat:Int))=false:=by rw[P8];intro h;exact q (Sc.1 (by omega))
    rw[e,Pt,f a v (by omega) (by omega),nf q,Cn _ _ _ (iz _ _), ←F7 t j]
theorem Jo (s:ByteArray)(c:Int)(hs:s.size≤2000000)(hc:0≤c∧c<256):oo s c=some (ak s c):=by
 have hz:ix (seg (tx s) 0 0) (bR (UInt8.ofNat c.toNat) (tx s))=bR (UInt8.ofNat c.toNat) (tx s):=by rw[ro];exact uo _ (iz _ _)
 have e:=Lp s (UInt8.ofNat c.toNat) hs (tx s).length 0 0 [] 9223372036854775808 (by omega) (by rw[←dm];omega) (by omega) (by rw[←dm];simp;omega);have a:(((UInt8.ofNat c.toNat).toNat:Nat):Int)=c:=by rw[UInt8.toNat_ofNat'];omega
 rw[PQ,hz,PG,a]at e;unfold oo ak;refine(Pw (Option.bind · _) e).trans ?_;rfl
theorem a8 (x0:ByteArray)(a:Int)(h:x0.size≤2000000)(hc:0≤a∧a<256):Does E 101 [O2 x0,.one (tY a)] [(false,[.s .own () 1 ((ak x0 a).map etS)])]:=by exact F3 x0 a _ (Jo x0 a h hc)
noncomputable def lm (x0:ByteArray)(b x2:Int):Option (Int×Int×Int×Bool):=cond (x0.toList==(⟨#[42]⟩:ByteArray).toList) (some (b,x2,1,true)) (cond (decide ((x0.size:Int)>(2:Int))) (if 0≤(0:Int)∧(0:Int)≤(2:Int)∧(2:Int)≤(x0.size:Int)then cond ((x0.extract (0:Int).toNat (2:Int).toNat).toList==(⟨#[42,47]⟩:ByteArray).toList) (if 0≤(2:Int)∧(2:Int)≤(x0.size:Int)∧(x0.size:Int)≤(x0.size:Int)then cond ((aa (x0.extract (2:Int).toNat (x0.size:Int).toNat)).2) (some (b,x2,(aa (x0.extract (2:Int).toNat (x0.size:Int).toNat)).1,decide (((aa (x0.extract (2:Int).toNat (x0.size:Int).toNat)).1)≥(1:Int)))) (some (b,x2,(aa (x0.extract (2:Int).toNat (x0.size:Int).toNat)).1,false))else none) (if x0.size≤2000000 then if 0≤(45:Int)∧(45:Int)<256 then(am (ak x0 45) 0).bind fun a=>cond ((aa a).2) (cond (((ak x0 45).length:Int)==(2:Int)) ((am (ak x0 45) 1).bind fun g1=>cond ((aa g1).2) (cond (decide (((ak x0 45).length:Int)≤(2:Int))) (cond (decide (b≤((aa a).1))) (cond (decide (((aa a).1)≤((aa g1).1))) (some ((aa a).1,(aa g1).1,1,decide (((aa g1).1)≤x2))) (some ((aa a).1,(aa g1).1,1,false))) (some ((aa a).1,(aa g1).1,1,false))) (some ((aa a).1,(aa g1).1,1,false))) (some ((aa a).1,(aa g1).1,1,false))) (cond (decide (((ak x0 45).length:Int)≤(2:Int))) (cond (decide (b≤((aa a).1))) (cond (decide (((aa a).1)≤((aa a).1))) (some ((aa a).1,(aa a).1,1,decide (((aa a).1)≤x2))) (some ((aa a).1,(aa a).1,1,false))) (some ((aa a).1,(aa a).1,1,false))) (some ((aa a).1,(aa a).1,1,false)))) (cond (((ak x0 45).length:Int)==(2:Int)) ((am (ak x0 45) 1).bind fun g1=>some ((aa a).1,(aa g1).1,1,false)) (some ((aa a).1,(aa a).1,1,false)))else none else none)else none) (if x0.size≤2000000 then if 0≤(45:Int)∧(45:Int)<256 then(am (ak x0 45) 0).bind fun a=>cond ((aa a).2) (cond (((ak x0 45).length:Int)==(2:Int)) ((am (ak x0 45) 1).bind fun g1=>cond ((aa g1).2) (cond (decide (((ak x0 45).length:Int)≤(2:Int))) (cond (decide (b≤((aa a).1))) (cond (decide (((aa a).1)≤((aa g1).1))) (some ((aa a).1,(aa g1).1,1,decide (((aa g1).1)≤x2))) (some ((aa a).1,(aa g1).1,1,false))) (some ((aa a).1,(aa g1).1,1,false))) (some ((aa a).1,(aa g1).1,1,false))) (some ((aa a).1,(aa g1).1,1,false))) (cond (decide (((ak x0 45).length:Int)≤(2:Int))) (cond (decide (b≤((aa a).1))) (cond (decide (((aa a).1)≤((aa a).1))) (some ((aa a).1,(aa a).1,1,decide (((aa a).1)≤x2))) (some ((aa a).1,(aa a).1,1,false))) (some ((aa a).1,(aa a).1,1,false))) (some ((aa a).1,(aa a).1,1,false)))) (cond (((ak x0 45).length:Int)==(2:Int)) ((am (ak x0 45) 1).bind fun g1=>some ((aa a).1,(aa g1).1,1,false)) (some ((aa a).1,(aa a).1,1,false)))else none else none))
theorem F0 (x0:ByteArray)(p x2:Int):Ans (lm x0 p x2) (fun r=>Does E 102 [O2 x0,O0 p,O0 x2] [OX r.1,OX r.2.1,OX r.2.2.1,OY r.2.2.2]):=by
 unfold lm;apply OR<;>intro e
 ·exact OO (DP Tryz.f102 [.b true] (AC e<|AN))
 ·apply OR<;>intro h
  ·refine OT (fun f => ?_);apply OR<;>intro g
   ·refine OT (fun c => ?_);apply OR<;>intro d
    ·exact OO (DP Tryz.f102 [.b false,.b true,.b true,.ret [OX ((aa (x0.extract (2:Int).toNat (x0.size:Int).toNat)).1),OY true]] (AC e<|AC h<|AC f<|AC g<|AC c<|AD (ay (x0.extract (2:Int).toNat (x0.size:Int).toNat) d)<|AN))
    ·exact OO (DP Tryz.f102 [.b false,.b true,.b true,.ret [OX ((aa (x0.extract (2:Int).toNat (x0.size:Int).toNat)).1),OY false]] (AC e<|AC h<|AC f<|AC g<|AC c<|AD (ay (x0.extract (2:Int).toNat (x0.size:Int).toNat) d)<|AN))
   ·refine OT (fun c => ?_);refine OT (fun d => ?_);refine OS (fun a i => ?_);apply OR<;>intro j
    ·apply OR<;>intro k
     ·refine OS (fun g1 m => ?_);apply OR<;>intro b
      ·apply OR<;>intro l
       ·apply OR<;>intro n
        ·apply OR<;>intro o
         ·exact OO (DP Tryz.f102 [.b false,.b true,.b false,.ret [(false,[.s .own () 1 ((ak x0 45).map etS)])],.row (etS a),.ret [OX ((aa a).1),OY true],O3 ((ak x0 45).length:Int),.b true,.row (etS g1),.ret [OX ((aa g1).1),OY true],O3 ((ak x0 45).length:Int),.b true,.b true,.b true] (AC e<|AC h<|AC f<|AC g<|AD (a8 x0 45 c d)<|AG etS i<|AD (ay a j)<|ALn (ak x0 45) etS<|AC k<|AG etS m<|AD (ay g1 b)<|ALn (ak x0 45) etS<|AC l<|AC n<|AC o<|AN))
         ·exact OO (DP Tryz.f102 [.b false,.b true,.b false,.ret [(false,[.s .own () 1 ((ak x0 45).map etS)])],.row (etS a),.ret [OX ((aa a).1),OY true],O3 ((ak x0 45).length:Int),.b true,.row (etS g1),.ret [OX ((aa g1).1),OY true],O3 ((ak x0 45).length:Int),.b true,.b true,.b false] (AC e<|AC h<|AC f<|AC g<|AD (a8 x0 45 c d)<|AG etS i<|AD (ay a j)<|ALn (ak x0 45) etS<|AC k<|AG etS m<|AD (ay g1 b)<|ALn (ak x0 45) etS<|AC l<|AC n<|AC o<|AN))
        ·exact OO (DP Tryz.f102 [.b false,.b true,.b false,.ret [(false,[.s .own () 1 ((ak x0 45).map etS)])],.row (etS a),.ret [OX ((aa a).1),OY true],O3 ((ak x0 45).length:Int),.b true,.row (etS g1),.ret [OX ((aa g1).1),OY true],O3 ((ak x0 45).length:Int),.b true,.b false] (AC e<|AC h<|AC f<|AC g<|AD (a8 x0 45 c d)<|AG etS i<|AD (ay a j)<|ALn (ak x0 45) etS<|AC k<|AG etS m<|AD (ay g1 b)<|ALn (ak x0 45) etS<|AC l<|AC n<|AN))
       ·exact OO (DP Tryz.f102 [.b false,.b true,.b false,.ret [(false,[.s .own () 1 ((ak x0 45).map etS)])],.row (etS a),.ret [OX ((aa a).1),OY true],O3 ((ak x0 45).length:Int),.b true,.row (etS g1),.ret [OX ((aa g1).1),OY true],O3 ((ak x0 45).length:Int),.b false] (AC e<|AC h<|AC f<|AC g<|AD (a8 x0 45 c d)<|AG etS i<|AD (ay a j)<|ALn (ak x0 45) etS<|AC k<|AG etS m<|AD (ay g1 b)<|ALn (ak x0 45) etS<|AC l<|AN))
      ·exact OO (DP Tryz.f102 [.b false,.b true,.b false,.ret [(false,[.s .own () 1 ((ak x0 45).map etS)])],.row (etS a),.ret [OX ((aa a).1),OY true],O3 ((ak x0 45).length:Int),.b true,.row (etS g1),.ret [OX ((aa g1).1),OY false]] (AC e<|AC h<|AC f<|AC g<|AD (a8 x0 45 c d)<|AG etS i<|AD (ay a j)<|ALn (ak x0 45) etS<|AC k<|AG etS m<|AD (ay g1 b)<|AN))
     ·apply OR<;>intro m
      ·apply OR<;>intro b
       ·apply OR<;>intro l
        ·exact OO (DP Tryz.f102 [.b false,.b true,.b false,.ret [(false,[.s .own () 1 ((ak x0 45).map etS)])],.row (etS a),.ret [OX ((aa a).1),OY true],O3 ((ak x0 45).length:Int),.b false,O3 ((ak x0 45).length:Int),.b true,.b true,.b true] (AC e<|AC h<|AC f<|AC g<|AD (a8 x0 45 c d)<|AG etS i<|AD (ay a j)<|ALn (ak x0 45) etS<|AC k<|ALn (ak x0 45) etS<|AC m<|AC b<|AC l<|AN))
        ·exact OO (DP Tryz.f102 [.b false,.b true,.b false,.ret [(false,[.s .own () 1 ((ak x0 45).map etS)])],.row (etS a),.ret [OX ((aa a).1),OY true],O3 ((ak x0 45).length:Int),.b false,O3 ((ak x0 45).length:Int),.b true,.b true,.b false] (AC e<|AC h<|AC f<|AC g<|AD (a8 x0 45 c d)<|AG etS i<|AD (ay a j)<|ALn (ak x0 45) etS<|AC k<|ALn (ak x0 45) etS<|AC m<|AC b<|AC l<|AN))
       ·exact OO (DP Tryz.f102 [.b false,.b true,.b false,.ret [(false,[.s .own () 1 ((ak x0 45).map etS)])],.row (etS a),.ret [OX ((aa a).1),OY true],O3 ((ak x0 45).length:Int),.b false,O3 ((ak x0 45).length:Int),.b true,.b false] (AC e<|AC h<|AC f<|AC g<|AD (a8 x0 45 c d)<|AG etS i<|AD (ay a j)<|ALn (ak x0 45) etS<|AC k<|ALn (ak x0 45) etS<|AC m<|AC b<|AN))
      ·exact OO (DP Tryz.f102 [.b false,.b true,.b false,.ret [(false,[.s .own () 1 ((ak x0 45).map etS)])],.row (etS a),.ret [OX ((aa a).1),OY true],O3 ((ak x0 45).length:Int),.b false,O3 ((ak x0 45).length:Int),.b false] (AC e<|AC h<|AC f<|AC g<|AD (a8 x0 45 c d)<|AG etS i<|AD (ay a j)<|ALn (ak x0 45) etS<|AC k<|ALn (ak x0 45) etS<|AC m<|AN))
    ·apply OR<;>intro k
     ·refine OS (fun g1 m => ?_);exact OO (DP Tryz.f102 [.b false,.b true,.b false,.ret [(false,[.s .own () 1 ((ak x0 45).map etS)])],.row (etS a),.ret [OX ((aa a).1),OY false],O3 ((ak x0 45).length:Int),.b true,.row (etS g1),.ret [OX ((aa g1).1),OY ((aa g1).2)]] (AC e<|AC h<|AC f<|AC g<|AD (a8 x0 45 c d)<|AG etS i<|AD (ay a j)<|ALn (ak x0 45) etS<|AC k<|AG etS m<|AD (nA g1)<|AN))
     ·exact OO (DP Tryz.f102 [.b false,.b true,.b false,.ret [(false,[.s .own () 1 ((ak x0 45).map etS)])],.row (etS a),.ret [OX ((aa a).1),OY false],O3 ((ak x0 45).length:Int),.b false] (AC e<|AC h<|AC f<|AC g<|AD (a8 x0 45 c d)<|AG etS i<|AD (ay a j)<|ALn (ak x0 45) etS<|AC k<|AN))
  ·refine OT (fun f => ?_);refine OT (fun g => ?_);refine OS (fun a c => ?_);apply OR<;>intro d
   ·apply OR<;>intro i
    ·refine OS (fun g1 j => ?_);apply OR<;>intro k
     ·apply OR<;>intro m
      ·apply OR<;>intro b
       ·apply OR<;>intro l
        ·exact OO (DP Tryz.f102 [.b false,.b false,.ret [(false,[.s .own () 1 ((ak x0 45).map etS)])],.row (etS a),.ret [OX ((aa a).1),OY true],O3 ((ak x0 45).length:Int),.b true,.row (etS g1),.ret [OX ((aa g1).1),OY true],O3 ((ak x0 45).length:Int),.b true,.b true,.b true] (AC e<|AC h<|AD (a8 x0 45 f g)<|AG etS c<|AD (ay a d)<|ALn (ak x0 45) etS<|AC i<|AG etS j<|AD (ay g1 k)<|ALn (ak x0 45) etS<|AC m<|AC b<|AC l<|AN))
        ·exact OO (DP Tryz.f102 [.b false,.b false,.ret [(false,[.s .own () 1 ((ak x0 45).map etS)])],.row (etS a),.ret [OX ((aa a).1),OY true],O3 ((ak x0 45).length:Int),.b true,.row (etS g1),.ret [OX ((aa g1).1),OY true],O3 ((ak x0 45).length:Int),.b true,.b true,.b false] (AC e<|AC h<|AD (a8 x0 45 f g)<|AG etS c<|AD (ay a d)<|ALn (ak x0 45) etS<|AC i<|AG etS j<|AD (ay g1 k)<|ALn (ak x0 45) etS<|AC m<|AC b<|AC l<|AN))
       ·exact OO (DP Tryz.f102 [.b false,.b false,.ret [(false,[.s .own () 1 ((ak x0 45).map etS)])],.row (etS a),.ret [OX ((aa a).1),OY true],O3 ((ak x0 45).length:Int),.b true,.row (etS g1),.ret [OX ((aa g1).1),OY true],O3 ((ak x0 45).length:Int),.b true,.b false] (AC e<|AC h<|AD (a8 x0 45 f g)<|AG etS c<|AD (ay a d)<|ALn (ak x0 45) etS<|AC i<|AG etS j<|AD (ay g1 k)<|ALn (ak x0 45) etS<|AC m<|AC b<|AN))
      ·exact OO (DP Tryz.f102 [.b false,.b false,.ret [(false,[.s .own () 1 ((ak x0 45).map etS)])],.row (etS a),.ret [OX ((aa a).1),OY true],O3 ((ak x0 45).length:Int),.b true,.row (etS g1),.ret [OX ((aa g1).1),OY true],O3 ((ak x0 45).length:Int),.b false] (AC e<|AC h<|AD (a8 x0 45 f g)<|AG etS c<|AD (ay a d)<|ALn (ak x0 45) etS<|AC i<|AG etS j<|AD (ay g1 k)<|ALn (ak x0 45) etS<|AC m<|AN))
     ·exact OO (DP Tryz.f102 [.b false,.b false,.ret [(false,[.s .own () 1 ((ak x0 45).map etS)])],.row (etS a),.ret [OX ((aa a).1),OY true],O3 ((ak x0 45).length:Int),.b true,.row (etS g1),.ret [OX ((aa g1).1),OY false]] (AC e<|AC h<|AD (a8 x0 45 f g)<|AG etS c<|AD (ay a d)<|ALn (ak x0 45) etS<|AC i<|AG etS j<|AD (ay g1 k)<|AN))
    ·apply OR<;>intro j
     ·apply OR<;>intro k
      ·apply OR<;>intro m
       ·exact OO (DP Tryz.f102 [.b false,.b false,.ret [(false,[.s .own () 1 ((ak x0 45).map etS)])],.row (etS a),.ret [OX ((aa a).1),OY true],O3 ((ak x0 45).length:Int),.b false,O3 ((ak x0 45).length:Int),.b true,.b true,.b true] (AC e<|AC h<|AD (a8 x0 45 f g)<|AG etS c<|AD (ay a d)<|ALn (ak x0 45) etS<|AC i<|ALn (ak x0 45) etS<|AC j<|AC k<|AC m<|AN))
       ·exact OO (DP Tryz.f102 [.b false,.b false,.ret [(false,[.s .own () 1 ((ak x0 45).map etS)])],.row (etS a),.ret [OX ((aa a).1),OY true],O3 ((ak x0 45).length:Int),.b false,O3 ((ak x0 45).length:Int),.b true,.b true,.b false] (AC e<|AC h<|AD (a8 x0 45 f g)<|AG etS c<|AD (ay a d)<|ALn (ak x0 45) etS<|AC i<|ALn (ak x0 45) etS<|AC j<|AC k<|AC m<|AN))
      ·exact OO (DP Tryz.f102 [.b false,.b false,.ret [(false,[.s .own () 1 ((ak x0 45).map etS)])],.row (etS a),.ret [OX ((aa a).1),OY true],O3 ((ak x0 45).length:Int),.b false,O3 ((ak x0 45).length:Int),.b true,.b false] (AC e<|AC h<|AD (a8 x0 45 f g)<|AG etS c<|AD (ay a d)<|ALn (ak x0 45) etS<|AC i<|ALn (ak x0 45) etS<|AC j<|AC k<|AN))
     ·exact OO (DP Tryz.f102 [.b false,.b false,.ret [(false,[.s .own () 1 ((ak x0 45).map etS)])],.row (etS a),.ret [OX ((aa a).1),OY true],O3 ((ak x0 45).length:Int),.b false,O3 ((ak x0 45).length:Int),.b false] (AC e<|AC h<|AD (a8 x0 45 f g)<|AG etS c<|AD (ay a d)<|ALn (ak x0 45) etS<|AC i<|ALn (ak x0 45) etS<|AC j<|AN))
   ·apply OR<;>intro i
    ·refine OS (fun g1 j => ?_);exact OO (DP Tryz.f102 [.b false,.b false,.ret [(false,[.s .own () 1 ((ak x0 45).map etS)])],.row (etS a),.ret [OX ((aa a).1),OY false],O3 ((ak x0 45).length:Int),.b true,.row (etS g1),.ret [OX ((aa g1).1),OY ((aa g1).2)]] (AC e<|AC h<|AD (a8 x0 45 f g)<|AG etS c<|AD (ay a d)<|ALn (ak x0 45) etS<|AC i<|AG etS j<|AD (nA g1)<|AN))
    ·exact OO (DP Tryz.f102 [.b false,.b false,.ret [(false,[.s .own () 1 ((ak x0 45).map etS)])],.row (etS a),.ret [OX ((aa a).1),OY false],O3 ((ak x0 45).length:Int),.b false] (AC e<|AC h<|AD (a8 x0 45 f g)<|AG etS c<|AD (ay a d)<|ALn (ak x0 45) etS<|AC i<|AN))
noncomputable def mt (x0:ByteArray)(a x2:Int):Option (Int×Int×Int×Bool):=cond (x0.toList==(⟨#[42]⟩:ByteArray).toList) (some (a,x2,1,true)) (cond ((bQ x0 (⟨#[42,47]⟩:ByteArray)).2) (cond ((aa ((bQ x0 (⟨#[42,47]⟩:ByteArray)).1)).2) (some (a,x2,(aa ((bQ x0 (⟨#[42,47]⟩:ByteArray)).1)).1,decide (((aa ((bQ x0 (⟨#[42,47]⟩:ByteArray)).1)).1)≥(1:Int)))) (some (a,x2,(aa ((bQ x0 (⟨#[42,47]⟩:ByteArray)).1)).1,false))) (if x0.size<4294967281 then cond ((aK x0 (⟨#[45]⟩:ByteArray)).2.2) (cond ((aa ((aK x0 (⟨#[45]⟩:ByteArray)).1)).2) (cond ((aa ((aK x0 (⟨#[45]⟩:ByteArray)).2.1)).2) (cond (decide (((aa ((aK x0 (⟨#[45]⟩:ByteArray)).1)).1)≥a)) (cond (decide (((aa ((aK x0 (⟨#[45]⟩:ByteArray)).1)).1)≤((aa ((aK x0 (⟨#[45]⟩:ByteArray)).2.1)).1))) (some ((aa ((aK x0 (⟨#[45]⟩:ByteArray)).1)).1,(aa ((aK x0 (⟨#[45]⟩:ByteArray)).2.1)).1,1,decide (((aa ((aK x0 (⟨#[45]⟩:ByteArray)).2.1)).1)≤x2))) (some ((aa ((aK x0 (⟨#[45]⟩:ByteArray)).1)).1,(aa ((aK x0 (⟨#[45]⟩:ByteArray)).2.1)).1,1,false))) (some ((aa ((aK x0 (⟨#[45]⟩:ByteArray)).1)).1,(aa ((aK x0 (⟨#[45]⟩:ByteArray)).2.1)).1,1,false))) (some ((aa ((aK x0 (⟨#[45]⟩:ByteArray)).1)).1,(aa ((aK x0 (⟨#[45]⟩:ByteArray)).2.1)).1,1,false))) (some ((aa ((aK x0 (⟨#[45]⟩:ByteArray)).1)).1,(aa ((aK x0 (⟨#[45]⟩:ByteArray)).2.1)).1,1,false))) (cond ((aa ((aK x0 (⟨#[45]⟩:ByteArray)).1)).2) (cond (decide (((aa ((aK x0 (⟨#[45]⟩:ByteArray)).1)).1)≥a)) (cond (decide (((aa ((aK x0 (⟨#[45]⟩:ByteArray)).1)).1)≤((aa ((aK x0 (⟨#[45]⟩:ByteArray)).1)).1))) (some ((aa ((aK x0 (⟨#[45]⟩:ByteArray)).1)).1,(aa ((aK x0 (⟨#[45]⟩:ByteArray)).1)).1,1,decide (((aa ((aK x0 (⟨#[45]⟩:ByteArray)).1)).1)≤x2))) (some ((aa ((aK x0 (⟨#[45]⟩:ByteArray)).1)).1,(aa ((aK x0 (⟨#[45]⟩:ByteArray)).1)).1,1,false))) (some ((aa ((aK x0 (⟨#[45]⟩:ByteArray)).1)).1,(aa ((aK x0 (⟨#[45]⟩:ByteArray)).1)).1,1,false))) (some ((aa ((aK x0 (⟨#[45]⟩:ByteArray)).1)).1,(aa ((aK x0 (⟨#[45]⟩:ByteArray)).1)).1,1,false)))else none))
theorem G3 (x0:ByteArray)(h x2:Int):Ans (mt x0 h x2) (fun r=>Does E 122 [O2 x0,O0 h,O0 x2] [OX r.1,OX r.2.1,OX r.2.2.1,OY r.2.2.2]):=by
 unfold mt;apply OR<;>intro a
 ·exact OO (DP Tryz.f122 [.b true] (AC a<|AN))
 ·apply OR<;>intro c
  ·apply OR<;>intro b
   ·exact OO (DP Tryz.f122 [.b false,.ret [OZ ((bQ x0 (⟨#[42,47]⟩:ByteArray)).1),OY true],.ret [OX ((aa ((bQ x0 (⟨#[42,47]⟩:ByteArray)).1)).1),OY true]] (AC a<|AD (OU (rs':=[OZ ((bQ x0 (⟨#[42,47]⟩:ByteArray)).1),OY true]) (bJ x0 (⟨#[42,47]⟩:ByteArray)) (by rw[c]))<|AD (bq ((bQ x0 (⟨#[42,47]⟩:ByteArray)).1) b)<|AN))
   ·exact OO (DP Tryz.f122 [.b false,.ret [OZ ((bQ x0 (⟨#[42,47]⟩:ByteArray)).1),OY true],.ret [OX ((aa ((bQ x0 (⟨#[42,47]⟩:ByteArray)).1)).1),OY false]] (AC a<|AD (OU (rs':=[OZ ((bQ x0 (⟨#[42,47]⟩:ByteArray)).1),OY true]) (bJ x0 (⟨#[42,47]⟩:ByteArray)) (by rw[c]))<|AD (bq ((bQ x0 (⟨#[42,47]⟩:ByteArray)).1) b)<|AN))
  ·refine OT (fun b => ?_);apply OR<;>intro e
   ·apply OR<;>intro d
    ·apply OR<;>intro f
     ·apply OR<;>intro g
      ·apply OR<;>intro i
       ·exact OO (DP Tryz.f122 [.b false,.ret [OZ ((bQ x0 (⟨#[42,47]⟩:ByteArray)).1),OY false],.ret [OZ ((aK x0 (⟨#[45]⟩:ByteArray)).1),OZ ((aK x0 (⟨#[45]⟩:ByteArray)).2.1),OY true],.ret [OX ((aa ((aK x0 (⟨#[45]⟩:ByteArray)).1)).1),OY true],.ret [OX ((aa ((aK x0 (⟨#[45]⟩:ByteArray)).2.1)).1),OY true],.b true,.b true] (AC a<|AD (OU (rs':=[OZ ((bQ x0 (⟨#[42,47]⟩:ByteArray)).1),OY false]) (bJ x0 (⟨#[42,47]⟩:ByteArray)) (by rw[c]))<|AD (OU (rs':=[OZ ((aK x0 (⟨#[45]⟩:ByteArray)).1),OZ ((aK x0 (⟨#[45]⟩:ByteArray)).2.1),OY true]) (eB x0 (⟨#[45]⟩:ByteArray) b) (by rw[e]))<|AD (bq ((aK x0 (⟨#[45]⟩:ByteArray)).1) d)<|AD (bq ((aK x0 (⟨#[45]⟩:ByteArray)).2.1) f)<|AC g<|AC i<|AN))
       ·exact OO (DP Tryz.f122 [.b false,.ret [OZ ((bQ x0 (⟨#[42,47]⟩:ByteArray)).1),OY false],.ret [OZ ((aK x0 (⟨#[45]⟩:ByteArray)).1),OZ ((aK x0 (⟨#[45]⟩:ByteArray)).2.1),OY true],.ret [OX ((aa ((aK x0 (⟨#[45]⟩:ByteArray)).1)).1),OY true],.ret [OX ((aa ((aK x0 (⟨#[45]⟩:ByteArray)).2.1)).1),OY true],.b true,.b false] (AC a<|AD (OU (rs':=[OZ ((bQ x0 (⟨#[42,47]⟩:ByteArray)).1),OY false]) (bJ x0 (⟨#[42,47]⟩:ByteArray)) (by rw[c]))<|AD (OU (rs':=[OZ ((aK x0 (⟨#[45]⟩:ByteArray)).1),OZ ((aK x0 (⟨#[45]⟩:ByteArray)).2.1),OY true]) (eB x0 (⟨#[45]⟩:ByteArray) b) (by rw[e]))<|AD (bq ((aK x0 (⟨#[45]⟩:ByteArray)).1) d)<|AD (bq ((aK x0 (⟨#[45]⟩:ByteArray)).2.1) f)<|AC g<|AC i<|AN))
      ·exact OO (DP Tryz.f122 [.b false,.ret [OZ ((bQ x0 (⟨#[42,47]⟩:ByteArray)).1),OY false],.ret [OZ ((aK x0 (⟨#[45]⟩:ByteArray)).1),OZ ((aK x0 (⟨#[45]⟩:ByteArray)).2.1),OY true],.ret [OX ((aa ((aK x0 (⟨#[45]⟩:ByteArray)).1)).1),OY true],.ret [OX ((aa ((aK x0 (⟨#[45]⟩:ByteArray)).2.1)).1),OY true],.b false] (AC a<|AD (OU (rs':=[OZ ((bQ x0 (⟨#[42,47]⟩:ByteArray)).1),OY false]) (bJ x0 (⟨#[42,47]⟩:ByteArray)) (by rw[c]))<|AD (OU (rs':=[OZ ((aK x0 (⟨#[45]⟩:ByteArray)).1),OZ ((aK x0 (⟨#[45]⟩:ByteArray)).2.1),OY true]) (eB x0 (⟨#[45]⟩:ByteArray) b) (by rw[e]))<|AD (bq ((aK x0 (⟨#[45]⟩:ByteArray)).1) d)<|AD (bq ((aK x0 (⟨#[45]⟩:ByteArray)).2.1) f)<|AC g<|AN))
     ·exact OO (DP Tryz.f122 [.b false,.ret [OZ ((bQ x0 (⟨#[42,47]⟩:ByteArray)).1),OY false],.ret [OZ ((aK x0 (⟨#[45]⟩:ByteArray)).1),OZ ((aK x0 (⟨#[45]⟩:ByteArray)).2.1),OY true],.ret [OX ((aa ((aK x0 (⟨#[45]⟩:ByteArray)).1)).1),OY true],.ret [OX ((aa ((aK x0 (⟨#[45]⟩:ByteArray)).2.1)).1),OY false]] (AC a<|AD (OU (rs':=[OZ ((bQ x0 (⟨#[42,47]⟩:ByteArray)).1),OY false]) (bJ x0 (⟨#[42,47]⟩:ByteArray)) (by rw[c]))<|AD (OU (rs':=[OZ ((aK x0 (⟨#[45]⟩:ByteArray)).1),OZ ((aK x0 (⟨#[45]⟩:ByteArray)).2.1),OY true]) (eB x0 (⟨#[45]⟩:ByteArray) b) (by rw[e]))<|AD (bq ((aK x0 (⟨#[45]⟩:ByteArray)).1) d)<|AD (bq ((aK x0 (⟨#[45]⟩:ByteArray)).2.1) f)<|AN))
    ·exact OO (DP Tryz.f122 [.b false,.ret [OZ ((bQ x0 (⟨#[42,47]⟩:ByteArray)).1),OY false],.ret [OZ ((aK x0 (⟨#[45]⟩:ByteArray)).1),OZ ((aK x0 (⟨#[45]⟩:ByteArray)).2.1),OY true],.ret [OX ((aa ((aK x0 (⟨#[45]⟩:ByteArray)).1)).1),OY false],.ret [OX ((aa ((aK x0 (⟨#[45]⟩:ByteArray)).2.1)).1),OY ((aa ((aK x0 (⟨#[45]⟩:ByteArray)).2.1)).2)]] (AC a<|AD (OU (rs':=[OZ ((bQ x0 (⟨#[42,47]⟩:ByteArray)).1),OY false]) (bJ x0 (⟨#[42,47]⟩:ByteArray)) (by rw[c]))<|AD (OU (rs':=[OZ ((aK x0 (⟨#[45]⟩:ByteArray)).1),OZ ((aK x0 (⟨#[45]⟩:ByteArray)).2.1),OY true]) (eB x0 (⟨#[45]⟩:ByteArray) b) (by rw[e]))<|AD (bq ((aK x0 (⟨#[45]⟩:ByteArray)).1) d)<|AD (ry ((aK x0 (⟨#[45]⟩:ByteArray)).2.1))<|AN))
   ·apply OR<;>intro d
    ·apply OR<;>intro f
     ·apply OR<;>intro g
      ·exact OO (DP Tryz.f122 [.b false,.ret [OZ ((bQ x0 (⟨#[42,47]⟩:ByteArray)).1),OY false],.ret [OZ ((aK x0 (⟨#[45]⟩:ByteArray)).1),OZ ((aK x0 (⟨#[45]⟩:ByteArray)).2.1),OY false],.ret [OX ((aa ((aK x0 (⟨#[45]⟩:ByteArray)).1)).1),OY true],.b true,.b true] (AC a<|AD (OU (rs':=[OZ ((bQ x0 (⟨#[42,47]⟩:ByteArray)).1),OY false]) (bJ x0 (⟨#[42,47]⟩:ByteArray)) (by rw[c]))<|AD (OU (rs':=[OZ ((aK x0 (⟨#[45]⟩:ByteArray)).1),OZ ((aK x0 (⟨#[45]⟩:ByteArray)).2.1),OY false]) (eB x0 (⟨#[45]⟩:ByteArray) b) (by rw[e]))<|AD (bq ((aK x0 (⟨#[45]⟩:ByteArray)).1) d)<|AC f<|AC g<|AN))
      ·exact OO (DP Tryz.f122 [.b false,.ret [OZ ((bQ x0 (⟨#[42,47]⟩:ByteArray)).1),OY false],.ret [OZ ((aK x0 (⟨#[45]⟩:ByteArray)).1),OZ ((aK x0 (⟨#[45]⟩:ByteArray)).2.1),OY false],.ret [OX ((aa ((aK x0 (⟨#[45]⟩:ByteArray)).1)).1),OY true],.b true,.b false] (AC a<|AD (OU (rs':=[OZ ((bQ x0 (⟨#[42,47]⟩:ByteArray)).1),OY false]) (bJ x0 (⟨#[42,47]⟩:ByteArray)) (by rw[c]))<|AD (OU (rs':=[OZ ((aK x0 (⟨#[45]⟩:ByteArray)).1),OZ ((aK x0 (⟨#[45]⟩:ByteArray)).2.1),OY false]) (eB x0 (⟨#[45]⟩:ByteArray) b) (by rw[e]))<|AD (bq ((aK x0 (⟨#[45]⟩:ByteArray)).1) d)<|AC f<|AC g<|AN))
     ·exact OO (DP Tryz.f122 [.b false,.ret [OZ ((bQ x0 (⟨#[42,47]⟩:ByteArray)).1),OY false],.ret [OZ ((aK x0 (⟨#[45]⟩:ByteArray)).1),OZ ((aK x0 (⟨#[45]⟩:ByteArray)).2.1),OY false],.ret [OX ((aa ((aK x0 (⟨#[45]⟩:ByteArray)).1)).1),OY true],.b false] (AC a<|AD (OU (rs':=[OZ ((bQ x0 (⟨#[42,47]⟩:ByteArray)).1),OY false]) (bJ x0 (⟨#[42,47]⟩:ByteArray)) (by rw[c]))<|AD (OU (rs':=[OZ ((aK x0 (⟨#[45]⟩:ByteArray)).1),OZ ((aK x0 (⟨#[45]⟩:ByteArray)).2.1),OY false]) (eB x0 (⟨#[45]⟩:ByteArray) b) (by rw[e]))<|AD (bq ((aK x0 (⟨#[45]⟩:ByteArray)).1) d)<|AC f<|AN))
    ·exact OO (DP Tryz.f122 [.b false,.ret [OZ ((bQ x0 (⟨#[42,47]⟩:ByteArray)).1),OY false],.ret [OZ ((aK x0 (⟨#[45]⟩:ByteArray)).1),OZ ((aK x0 (⟨#[45]⟩:ByteArray)).2.1),OY false],.ret [OX ((aa ((aK x0 (⟨#[45]⟩:ByteArray)).1)).1),OY false]] (AC a<|AD (OU (rs':=[OZ ((bQ x0 (⟨#[42,47]⟩:ByteArray)).1),OY false]) (bJ x0 (⟨#[42,47]⟩:ByteArray)) (by rw[c]))<|AD (OU (rs':=[OZ ((aK x0 (⟨#[45]⟩:ByteArray)).1),OZ ((aK x0 (⟨#[45]⟩:ByteArray)).2.1),OY false]) (eB x0 (⟨#[45]⟩:ByteArray) b) (by rw[e]))<|AD (bq ((aK x0 (⟨#[45]⟩:ByteArray)).1) d)<|AN))
def vC (r:Int×Int×Int×Bool)(o:Option (Int×Int×Int)):Prop :=
 match o with|some (a,b,c)=>r=(a,b,c,true)|none=>r.2.2.2=false
noncomputable def tH (a:List (List UInt8))(lo hi:Int):Option (Int×Int×Int):=
 match a with
 |[p]=>if(aa (ofTx p)).2=true∧lo≤(aa (ofTx p)).1∧(aa (ofTx p)).1≤hi then some ((aa (ofTx p)).1,(aa (ofTx p)).1,1)else none
 |[p,q]=>if(aa (ofTx p)).2=true∧(aa (ofTx q)).2=true∧lo≤(aa (ofTx p)).1∧(aa (ofTx p)).1≤(aa (ofTx q)).1∧(aa (ofTx q)).1≤hi then some ((aa (ofTx p)).1,(aa (ofTx q)).1,1)else none
 |_=>none
theorem yR (p:List UInt8)(lo hi:Int):tH [p] lo hi=if(aa (ofTx p)).2=true∧lo≤(aa (ofTx p)).1∧(aa (ofTx p)).1≤hi then some ((aa (ofTx p)).1,(aa (ofTx p)).1,1)else none:=rfl
theorem Fy (p q:List UInt8)(lo hi:Int):tH [p,q] lo hi=if(aa (ofTx p)).2=true∧(aa (ofTx q)).2=true∧lo≤(aa (ofTx p)).1∧(aa (ofTx p)).1≤(aa (ofTx q)).1∧(aa (ofTx q)).1≤hi then some ((aa (ofTx p)).1,(aa (ofTx q)).1,1)else none:=rfl
theorem Fz (p q r:List UInt8)(l:List (List UInt8))(lo hi:Int):tH (p::q::r::l) lo hi=none:=rfl
noncomputable def uH (s:ByteArray)(lo hi:Int):Option (Int×Int×Int):=if tx s=[42]then some (lo,hi,1) else if [42,47].isPrefixOf (tx s)=true then (if(aa (ofTx ((tx s).drop 2))).2=true∧1≤(aa (ofTx ((tx s).drop 2))).1 then some (lo,hi,(aa (ofTx ((tx s).drop 2))).1)else none) else tH (bR 45 (tx s)) lo hi
noncomputable def c8 (s:ByteArray)(lo hi:Int):Int×Int×Int×Bool:=(lm s lo hi).getD (0,0,0,false)
noncomputable def cZ (s:ByteArray)(lo hi:Int):Int×Int×Int×Bool:=(mt s lo hi).getD (0,0,0,false)
theorem FA {o:Option (Int×Int×Int×Bool)}{p:Option (Int×Int×Int)}{d:Int×Int×Int×Bool}(h:∃r,o=some r∧vC r p):o=some (o.getD d)∧vC (o.getD d) p:=by obtain⟨r,rfl,h⟩:=h;exact⟨rfl,h⟩
theorem Lb (L:List ByteArray)(i:List (List UInt8))(n:L=i.map ofTx)(lo hi:Int)(m:∃x xs,i=x::xs):
  ∃r,((am L 0).bind fun e=>cond ((aa e).2)
     (cond ((L.length:Int)==(2:Int))
      ((am L 1).bind fun g1=>cond ((aa g1).2)
       (cond (decide ((L.length:Int)≤(2:Int)))
        (cond (decide (lo≤((aa e).1)))
         (cond (decide (((aa e).1)≤((aa g1).1)))
          (some ((aa e).1,(aa g1).1,1,decide (((aa g1).1)≤hi)))
          (some ((aa e).1,(aa g1).1,1,false)))
         (some ((aa e).1,(aa g1).1,1,false)))
        (some ((aa e).1,(aa g1).1,1,false)))
       (some ((aa e).1,(aa g1).1,1,false)))
      (cond (decide ((L.length:Int)≤(2:Int)))
       (cond (decide (lo≤((aa e).1)))
        (cond (decide (((aa e).1)≤((aa e).1)))
         (some ((aa e).1,(aa e).1,1,decide (((aa e).1)≤hi)))
         (some ((aa e).1,(aa e).1,1,false)))
        (some ((aa e).1,(aa e).1,1,false)))
       (some ((aa e).1,(aa e).1,1,false))))
     (cond ((L.length:Int)==(2:Int))
      ((am L 1).bind fun g1=>some ((aa e).1,(aa g1).1,1,false))
      (some ((aa e).1,(aa e).1,1,false))))=some r∧vC r (tH i lo hi):=by
 subst n
 match i,m with
 |[p],_ =>
  have e:am ([p].map ofTx) 0=some (ofTx p):=rfl;have j:((([p].map ofTx).length:Int)==2)=false:=rfl;have k:decide ((([p].map ofTx).length:Int)≤2)=true:=rfl;rw[e,j,k,yR,O5];simp only[Pk,Pt];generalize aa (ofTx p)=a;obtain⟨a,b⟩:=a;cases b with
  |false=>exact⟨_,rfl,by rw[Pj (by simp)];exact rfl⟩
  |true =>
   rw[Pk];by_cases f:lo≤a
   ·rw[Ph f,Pk,Ph (Qe _),Pk];refine⟨_,rfl,?_⟩;by_cases g:a≤hi
    ·rw[Ph g,O6 ⟨rfl,f,g⟩];exact rfl
    ·rw[Pg g,Pj (fun h=>g h.2.2)];exact rfl
   ·rw[Pg f];exact⟨_,rfl,by rw[Pj (fun h=>f h.2.1)];exact rfl⟩
 |[p,q],_ =>
  have e:am ([p,q].map ofTx) 0=some (ofTx p):=rfl;have g1:am ([p,q].map ofTx) 1=some (ofTx q):=rfl;have j:((([p,q].map ofTx).length:Int)==2)=true:=rfl;have k:decide ((([p,q].map ofTx).length:Int)≤2)=true:=rfl;rw[e,g1,j,k,Fy,O5,O5];simp only[Pk,Pt];generalize aa (ofTx p)=a;generalize aa (ofTx q)=c;obtain⟨a,b⟩:=a;obtain⟨c,d⟩:=c;cases b with
  |false=>exact⟨_,rfl,by rw[Pj (by simp)];exact rfl⟩
  |true =>
   cases d with
   |false=>exact⟨_,rfl,by rw[Pj (by simp)];exact rfl⟩
   |true =>
    rw[Pk,Pk];by_cases f:lo≤a
    ·rw[Ph f,Pk];by_cases l:a≤c
     ·rw[Ph l,Pk];refine⟨_,rfl,?_⟩;by_cases g:c≤hi
      ·rw[Ph g,O6 ⟨rfl,rfl,f,l,g⟩];exact rfl
      ·rw[Pg g,Pj (fun h=>g h.2.2.2.2)];exact rfl
     ·rw[Pg l];exact⟨_,rfl,by rw[Pj (fun h=>l h.2.2.2.1)];exact rfl⟩
    ·rw[Pg f];exact⟨_,rfl,by rw[Pj (fun h=>f h.2.2.1)];exact rfl⟩
 |p::q::t::i,_ =>
  have j:((((p::q::t::i).map ofTx).length:Int)==2)=false:=by rw[P8];simp;omega
  have k:decide ((((p::q::t::i).map ofTx).length:Int)≤2)=false:=Pg (by simp;omega);rw[j,k,Fz];have e:am ((p::q::t::i).map ofTx) 0=some (ofTx p):=rfl;rw[e,O5];cases(aa (ofTx p)).2 with
  |false=>exact⟨_,rfl,rfl⟩
  |true=>exact⟨_,rfl,rfl⟩
theorem Cv (s:ByteArray)(lo hi:Int)(hs:s.size≤2000000):lm s lo hi=some (c8 s lo hi)∧vC (c8 s lo hi) (uH s lo hi):=by
 refine FA ?_;unfold lm uH;have j:tx (⟨#[42]⟩:ByteArray)=[42]:=rfl;have d:tx (⟨#[42,47]⟩:ByteArray)=[42,47]:=rfl;rw[ko,j];by_cases h:tx s=[42]
 ·rw[Ph h,O6 h];exact⟨_,rfl,rfl⟩
 ·have n:(s.size≤2000000)=True:=Rb hs;have hc:((0:Int)≤45∧(45:Int)<256)=True:=Rb (by decide);have o:ak s 45=(bR 45 (tx s)).map ofTx:=rfl;have k:=Lb (ak s 45) (bR 45 (tx s)) o lo hi (iz _ _);rw[Pg h,Pj h,Pt];simp only[n,hc,PK];have hz:=dm s;by_cases f:2<s.size
  ·rw[Ph (by omega),Pk,O6 (by omega),ko,d,Ax];have g:[42,47].isPrefixOf (tx s)=decide (seg (tx s) (0:Int).toNat (2:Int).toNat=[42,47]):=by
    obtain⟨a,b,l,e⟩:∃a b l,tx s=a::b::l:=by
     cases q:tx s with
     |nil=>rw[q]at hz;have:s.size=0:=hz;omega
     |cons a l =>
      cases l with
      |nil=>rw[q]at hz;have:s.size=1:=hz;omega
      |cons b l=>exact⟨a,b,l,rfl⟩
    have:seg (a::b::l) (0:Int).toNat (2:Int).toNat=[a,b]:=by simp[seg]
    have p:∀x y:UInt8,(x==y)=decide (y=x):=fun x y=>by
     by_cases h:y=x
     ·subst h;simp
     ·rw[Pg h,P8];exact fun e=>h e.symm
    rw[e,this];simp[List.isPrefixOf,p]
   rw[g];have t:s.extract (2:Int).toNat (s.size:Int).toNat=ofTx ((tx s).drop 2):=by rw[mp];unfold seg;rw[Rj (by omega)];rfl
   by_cases q:seg (tx s) (0:Int).toNat (2:Int).toNat=[42,47]
   ·rw[Ph q,Pk,O6 rfl,O6 (by omega),t];generalize aa (ofTx ((tx s).drop 2))=a;obtain⟨a,b⟩:=a;cases b with
    |false=>exact⟨_,rfl,by rw[Pj (by simp)];exact rfl⟩
    |true =>
     refine⟨_,rfl,?_⟩;by_cases z:1≤a
     ·rw[Ph (show a≥1 from z),O6 ⟨rfl,z⟩];exact rfl
     ·rw[Pg (show ¬a≥1 from z),Pj (fun h=>z h.2)];exact rfl
   ·rw[Pg q,Pt,Pj (by simp)];exact k
  ·rw[Pg (by omega),Pt];by_cases q:[42,47].isPrefixOf (tx s)=true
   ·rw[O6 q];have e:tx s=[42,47]:=by
     cases w:tx s with
     |nil=>rw[w]at q;simp[List.isPrefixOf]at q
     |cons a l =>
      cases l with
      |nil=>rw[w]at q;simp[List.isPrefixOf]at q
      |cons b l =>
       cases l with
       |nil=>rw[w]at q;simp[List.isPrefixOf]at q;rw[←q.1, ←q.2]
       |cons c l=>rw[w]at hz;simp at hz;omega
    have hb:(aa (ofTx ((tx s).drop 2)))=(0,false):=by
     rw[e];show aa (ofTx [])=_;unfold aa;rw[Pj (by decide)];have:¬tx (br 0)=tx (ofTx []):=by unfold br Lib.itoa;rw[Pj (by omega),Lib.decDigits,dif_pos (by simp)];simp[tx,ofTx]
     show(if(1000000000:Int)<0 then _ else if _ then _ else _)=_;rw[Pj (by decide),Pj this]
    rw[hb,Pj (by simp)];obtain⟨r,u,f⟩:=k;refine⟨r,u,?_⟩;rw[e]at f;have i:bR 45 ([42,47]:List UInt8)=[[42,47]]:=s6 (by decide);rw[i,yR]at f;have m:aa (ofTx [42,47])=(0,false):=x9 (b:=42) (by rw[tW];simp) (by decide);simp only[m]at f;rw[Pj (by simp)]at f;exact f
   ·rw[Pj q];exact k
theorem Cu (s:ByteArray)(lo hi:Int)(hs:s.size≤2000000):mt s lo hi=some (cZ s lo hi)∧vC (cZ s lo hi) (uH s lo hi):=by
 refine FA ?_;unfold mt uH;have k:tx (⟨#[42]⟩:ByteArray)=[42]:=rfl;rw[ko,k];by_cases h:tx s=[42]
 ·rw[Ph h,O6 h];exact⟨_,rfl,rfl⟩
 ·rw[Pg h,Pj h,Pt];have l:(bQ s (⟨#[42,47]⟩:ByteArray)).2=[42,47].isPrefixOf (tx s):=rfl;rw[l];by_cases q:[42,47].isPrefixOf (tx s)=true
  ·have m:(bQ s (⟨#[42,47]⟩:ByteArray)).1=ofTx ((tx s).drop 2):=by show ofTx (Lib.trimPrefix (tx s) [42,47])=_;unfold Lib.trimPrefix Lib.hasPrefix;rw[O6 q];rfl
   rw[q,Pk,O6 rfl,m];generalize aa (ofTx ((tx s).drop 2))=a;obtain⟨a,b⟩:=a;cases b with
   |false=>exact⟨_,rfl,by rw[Pj (by simp)];exact rfl⟩
   |true =>
    refine⟨_,rfl,?_⟩;by_cases z:1≤a
    ·rw[Ph (show a≥1 from z),O6 ⟨rfl,z⟩];exact rfl
    ·rw[Pg (show ¬a≥1 from z),Pj (fun h=>z h.2)];exact rfl
  ·rw[Pj q];rw[Q1]at q;rw[q,Pt,O6 (by omega)];rcases Ep (tx s) 45 with⟨i,f,j⟩|⟨a,b,i,f,j,o⟩
   ·have n:aK s (⟨#[45]⟩:ByteArray)=(s,ofTx [],false):=by show(ofTx (Lib.cut (tx s) [45]).1,ofTx (Lib.cut (tx s) [45]).2.1,(Lib.cut (tx s) [45]).2.2)=_;rw[f];rfl
    rw[n,j,yR];simp only[Pt];rw[tF];generalize aa s=a;obtain⟨a,b⟩:=a;cases b with
    |false=>exact⟨_,rfl,by rw[Pj (by simp)];exact rfl⟩
    |true =>
     rw[Pk];by_cases i:lo≤a
     ·rw[Ph (show a≥lo from i),Pk,Ph (Qe _),Pk];refine⟨_,rfl,?_⟩;by_cases f:a≤hi
      ·rw[Ph f,O6 ⟨rfl,i,f⟩];exact rfl
      ·rw[Pg f,Pj (fun h=>f h.2.2)];exact rfl
     ·rw[Pg (show ¬a≥lo from i)];exact⟨_,rfl,by rw[Pj (fun h=>i h.2.1)];exact rfl⟩
   ·have n:aK s (⟨#[45]⟩:ByteArray)=(ofTx a,ofTx b,true):=by show(ofTx (Lib.cut (tx s) [45]).1,ofTx (Lib.cut (tx s) [45]).2.1,(Lib.cut (tx s) [45]).2.2)=_;rw[j]
    rw[n,o];simp only[Pk];by_cases hb:(45:UInt8)∈b
    ·have p:aa (ofTx b)=(0,false):=x9 (b:=45) (by rw[tW];exact hb) (by decide);have r:∃x y z,bR 45 b=x::y::z:=by
      rcases Ep b 45 with⟨g,_⟩|⟨c,d,_,_,_,g⟩
      ·exact absurd hb g
      ·obtain⟨y,z,e⟩:=iz 45 d;exact⟨c,y,z,by rw[g,e]⟩
     obtain⟨x,y,z,e⟩:=r;rw[e,p,Fz];cases(aa (ofTx a)).2 with
     |false=>exact⟨_,rfl,rfl⟩
     |true=>exact⟨_,rfl,rfl⟩
    ·rw[s6 hb,Fy];generalize aa (ofTx a)=a;generalize aa (ofTx b)=c;obtain⟨a,b⟩:=a;obtain⟨c,d⟩:=c;cases b with
     |false=>exact⟨_,rfl,by rw[Pj (by simp)];exact rfl⟩
     |true =>
      cases d with
      |false=>exact⟨_,rfl,by rw[Pj (by simp)];exact rfl⟩
      |true =>
       rw[Pk,Pk];by_cases i:lo≤a
       ·rw[Ph (show a≥lo from i),Pk];by_cases j:a≤c
        ·rw[Ph j,Pk];refine⟨_,rfl,?_⟩;by_cases f:c≤hi
         ·rw[Ph f,O6 ⟨rfl,rfl,i,j,f⟩];exact rfl
         ·rw[Pg f,Pj (fun h=>f h.2.2.2.2)];exact rfl
        ·rw[Pg j];exact⟨_,rfl,by rw[Pj (fun h=>j h.2.2.2.1)];exact rfl⟩
       ·rw[Pg (show ¬a≥lo from i)];exact⟨_,rfl,by rw[Pj (fun h=>i h.2.2.1)];exact rfl⟩
theorem Ml {s:ByteArray}{lo hi a b c:Int}(d:lo≤hi)(h:uH s lo hi=some (a,b,c)):lo≤a∧a≤b∧b≤hi∧1≤c∧c≤1000000000:=by
 unfold uH at h;split at h
 ·cases h;exact⟨Qe _,d,Qe _,Qe _,by decide⟩
 ·split at h
  ·split at h
   ·rename_i z;have:=JC (ofTx ((tx s).drop 2));cases h;exact⟨Qe _,d,Qe _,z.2,this.2⟩
   ·cases h
  ·unfold tH at h;split at h
   ·split at h
    ·rename_i z;cases h;exact⟨z.2.1,Qe _,z.2.2,Qe _,by decide⟩
    ·cases h
   ·split at h
    ·rename_i z;cases h;exact⟨z.2.2.1,z.2.2.2.1,z.2.2.2.2,Qe _,by decide⟩
    ·cases h
   ·cases h
theorem Eb (x0:ByteArray)(a:Int)(x2:Int)(h:x0.size≤2000000):Does E 102 [O2 x0,O0 a,O0 x2] [OX ((c8 x0 a x2).1),OX ((c8 x0 a x2).2.1),OX ((c8 x0 a x2).2.2.1),OY ((c8 x0 a x2).2.2.2)]:=by exact F0 x0 a x2 _ (Cv x0 a x2 h).1
theorem sT (x0:ByteArray)(a:Int)(x2:Int)(h:x0.size≤2000000){c:Bool}(b:(c8 x0 a x2).2.2.2=c):Does E 102 [O2 x0,O0 a,O0 x2] [OX ((c8 x0 a x2).1),OX ((c8 x0 a x2).2.1),OX ((c8 x0 a x2).2.2.1),OY c]:=by rw[←b];exact Eb x0 a x2 h
theorem Gs (x0:ByteArray)(a:Int)(x2:Int)(h:x0.size≤2000000):Does E 122 [O2 x0,O0 a,O0 x2] [OX ((cZ x0 a x2).1),OX ((cZ x0 a x2).2.1),OX ((cZ x0 a x2).2.2.1),OY ((cZ x0 a x2).2.2.2)]:=by exact G3 x0 a x2 _ (Cu x0 a x2 h).1
theorem uW (x0:ByteArray)(a:Int)(x2:Int)(h:x0.size≤2000000){c:Bool}(b:(cZ x0 a x2).2.2.2=c):Does E 122 [O2 x0,O0 a,O0 x2] [OX ((cZ x0 a x2).1),OX ((cZ x0 a x2).2.1),OX ((cZ x0 a x2).2.2.1),OY c]:=by rw[←b];exact Gs x0 a x2 h
noncomputable def lG (x0:Int):Option (Int×Int):=cond (x0==(0:Int)) (some (0,59)) (cond (x0==(1:Int)) (some (0,23)) (cond (x0==(2:Int)) (some (1,31)) (cond (x0==(3:Int)) (some (1,12)) (some (0,6)))))
theorem Jb (x0:Int):Ans (lG x0) (fun r=>Does E 121 [O0 x0] [OX r.1,OX r.2]):=by
 unfold lG;apply OR<;>intro a
 ·exact OO (DP Tryz.f121 [.b true] (AC a<|AN))
 ·apply OR<;>intro b
  ·exact OO (DP Tryz.f121 [.b false,.b true] (AC a<|AC b<|AN))
  ·apply OR<;>intro c
   ·exact OO (DP Tryz.f121 [.b false,.b false,.b true] (AC a<|AC b<|AC c<|AN))
   ·apply OR<;>intro d
    ·exact OO (DP Tryz.f121 [.b false,.b false,.b false,.b true] (AC a<|AC b<|AC c<|AC d<|AN))
    ·exact OO (DP Tryz.f121 [.b false,.b false,.b false,.b false] (AC a<|AC b<|AC c<|AC d<|AN))
noncomputable def aG (i:Int):Int×Int:=(lG i).getD (0,0)
theorem Iy (i:Int):lG i=some (aG i):=by refine Tot.getD ?_ _;unfold lG;repeat' (first|exact Tot.some _|apply Tot.cond)
theorem J7 (i:Int):0≤(aG i).1∧(aG i).1≤(aG i).2∧(aG i).2≤59:=by unfold aG lG;cases i==0<;>cases i==1<;>cases i==2<;>cases i==3<;>exact⟨by decide,by decide,by decide⟩
theorem cg (x0:Int):Does E 121 [O0 x0] [OX ((aG x0).1),OX ((aG x0).2)]:=by exact Jb x0 _ (Iy x0)
inductive vo where|x4 (v16:List Int)
def iD (v2:Int)(v8:List Bool)(v16:List Int)(a:Int):US:=stL 70 [(2,O0 v2),(8,.one (.s .own () 1 (v8.map etB))),(16,.one (.s .own () 1 (v16.map etI))),(17,O0 a)]
def ol (a:List Int):US:=stL 70 [(16,.one (.s .own () 1 (a.map etI)))]
abbrev pT:US→Exit→US→Prop:=Round E 81 (av Tryz.f81 2)
def Dq (v2:Int)(v8:List Bool)(v16:List Int)(b:Int):vo→Prop| .x4 a=>Loops E 81 (av Tryz.f81 2) (iD v2 v8 v16 b) (.exit 4) (ol a)
noncomputable def fA (v2:Int)(v8:List Bool):Nat→(List Int)→Int→Option vo| 0,_,_=>none|n+1,v16,a=>cond (decide (a≤v2)) ((am v8 a).bind fun b=>cond (b) (if(v16.length+([a]).length)*8≤140737488355328∧v16.length+([a]).length≤4611686018427387904 then fA v2 v8 n (v16++([a])) (inc a)else none) (fA v2 v8 n v16 (inc a))) (some (.x4 v16))
theorem Dn (v2:Int)(v8:List Bool)(n:Nat):∀(v16:List Int)(a:Int),Ans (fA v2 v8 n v16 a) (Dq v2 v8 v16 a):=by
 induction n with
 |zero=>intros;exact Ans.none
 |succ n e =>
  intro v16 a;unfold fA;apply OR<;>intro c
  ·refine OS (fun f b => ?_);apply OR<;>intro g
   ·refine OT (fun i => ?_);have r:pT (iD v2 v8 v16 a) .normal (iD v2 v8 (v16++([a])) (inc a)):=RP [.b true,.row ([tB true]),.rows ((v16++([a])).map etI)] (AC c<|AC (p:=0≤a∧a<((v8.map etB).length:Int)) (gK b)<|AC (p:=(v8.map etB)[0+a.toNat]?=some ([tB true])) ((dg b).trans (Pw some (show [tB f]=[tB true] by rw[g])))<|AAp etI (fun _=>rfl) i<|AN);exact(e (v16++([a])) (inc a)).mono fun y d=>by cases y<;>exact OP r d
   ·have r:pT (iD v2 v8 v16 a) .normal (iD v2 v8 v16 (inc a)):=RP [.b true,.row ([tB false])] (AC c<|AC (p:=0≤a∧a<((v8.map etB).length:Int)) (gK b)<|AC (p:=(v8.map etB)[0+a.toNat]?=some ([tB false])) ((dg b).trans (Pw some (show [tB f]=[tB false] by rw[g])))<|AN);exact(e v16 (inc a)).mono fun y d=>by cases y<;>exact OP r d
  ·exact OO (OQ (show pT (iD v2 v8 v16 a) (.exit 4) (ol v16)from RP [.b false] (AC c<|AN)) (by intro h;cases h))
inductive vn where|x2 (v8:List Bool)
def mO (v1 v2:Int)(v8:List Bool)(v9:List ByteArray)(v10 a b c:Int):US:=stL 70 [(1,O0 v1),(2,O0 v2),(8,.one (.s .own () 1 (v8.map etB))),(9,.one (.s .own () 1 (v9.map etS))),(10,O0 v10),(12,O0 a),(13,O0 b),(15,O0 c)]
def oj (v1 v2:Int)(v9:List ByteArray)(v10:Int)(a:List Bool):US:=stL 70 [(1,O0 v1),(2,O0 v2),(8,.one (.s .own () 1 (a.map etB))),(9,.one (.s .own () 1 (v9.map etS))),(10,O0 v10)]
abbrev vl:US→Exit→US→Prop:=Round E 81 (av Tryz.f81 1)
def Dp (v1 v2:Int)(v8:List Bool)(v9:List ByteArray)(v10 a b c:Int):vn→Prop| .x2 d=>Loops E 81 (av Tryz.f81 1) (mO v1 v2 v8 v9 v10 a b c) (.exit 2) (oj v1 v2 v9 v10 d)
noncomputable def iE (b c:Int):Nat→(List Bool)→Int→Option vn| 0,_,_=>none|n+1,v8,a=>cond (decide (a≤b)) ((am v8 a).bind fun d=>iE b c n (v8.set a.toNat true) (IntKind.wrap .i64 (a+c))) (some (.x2 v8))
theorem Dm (v1 v2:Int)(v9:List ByteArray)(v10 c b:Int)(n:Nat):∀(v8:List Bool)(a:Int),Ans (iE c b n v8 a) (Dp v1 v2 v8 v9 v10 c b a):=by
 induction n with
 |zero=>intros;exact Ans.none
 |succ n f =>
  intro v8 a;unfold iE;apply OR<;>intro d
  ·refine OS (fun e g => ?_);have r:vl (mO v1 v2 v8 v9 v10 c b a) .normal (mO v1 v2 (v8.set a.toNat true) v9 v10 c b (IntKind.wrap .i64 (a+b))):=RP [.b true,.row (etB e),.rows ((v8.set a.toNat true).map etB)] (AC d<|AG etB g<|AC (p:=(v8.map etB).set (0+a.toNat) (au (etB e) 0 [tB true])=(v8.set a.toNat true).map etB) (db (by rfl))<|AN);exact(f (v8.set a.toNat true) (IntKind.wrap .i64 (a+b))).mono fun y i=>by cases y<;>exact OP r i
  ·exact OO (OQ (show vl (mO v1 v2 v8 v9 v10 c b a) (.exit 2) (oj v1 v2 v9 v10 v8)from RP [.b false] (AC d<|AN)) (by intro h;cases h))
inductive vm where|ret (v6:List Int) (v7:Bool)|x0 (v8:List Bool)
def iC (v1 v2:Int)(v8:List Bool)(v9:List ByteArray)(v10:Int):US:=stL 70 [(1,O0 v1),(2,O0 v2),(8,.one (.s .own () 1 (v8.map etB))),(9,.one (.s .own () 1 (v9.map etS))),(10,O0 v10)]
def m9 (a:List Int)(b:Bool):US:=stL 70 [(6,.one (.s .own () 1 (a.map etI))),(7,O1 b)]
def oi (v1 v2:Int)(a:List Bool):US:=stL 70 [(1,O0 v1),(2,O0 v2),(8,.one (.s .own () 1 (a.map etB)))]
abbrev pS:US→Exit→US→Prop:=Round E 81 (av Tryz.f81 0)
def Do (v1 v2:Int)(v8:List Bool)(v9:List ByteArray)(v10:Int):vm→Prop| .ret a b=>Loops E 81 (av Tryz.f81 0) (iC v1 v2 v8 v9 v10) .ret (m9 a b)| .x0 c=>Loops E 81 (av Tryz.f81 0) (iC v1 v2 v8 v9 v10) (.exit 0) (oi v1 v2 c)
noncomputable def eF (v1 v2:Int):List ByteArray→Nat→(List Bool)→Option vm
 |[],i,v8=>some (.x0 v8)
 |hd::rest,i,v8=>if hd.size≤2000000 then cond ((c8 hd v1 v2).2.2.2)
  ((iE ((c8 hd v1 v2).2.1) ((c8 hd v1 v2).2.2.1) 9223372036854775808 v8 ((c8 hd v1 v2).1)).bind fun y=>match y with
   | .x2 a=>(eF v1 v2 rest (i+1) a))
  (some (.ret ([]) false))else none
theorem Dl (v1 v2:Int)(v9:List ByteArray)(rest:List ByteArray):∀(i:Nat)(v8:List Bool),(v9).drop i=rest→v9.length≤9223372036854775807→Ans (eF v1 v2 rest i v8) (Do v1 v2 v8 v9 (i:Int)):=by
 induction rest with
 |nil =>intro i v8 b d;have hb:=aZ b;unfold eF;exact OO (OQ (show pS (iC v1 v2 v8 v9 (i:Int)) (.exit 0) (oi v1 v2 v8)from RP [O3 (v9.length:Int),.b false] (ALn v9 etS<|AC hb<|AN)) (by intro h;cases h))
 |cons hd rest k =>
  intro i v8 b d;have hb:=aT b;have l:=aU b d;have e:=aE b;have f:=aW b;unfold eF;refine OT (fun g => ?_);apply OR<;>intro j
  ·refine OS (fun y c => ?_);replace c:=Dm v1 v2 v9 (i:Int) ((c8 hd v1 v2).2.1) ((c8 hd v1 v2).2.2.1) 9223372036854775808 v8 ((c8 hd v1 v2).1) y c;cases y with
   |x2 a =>have m:=c;exact(k (i+1) a e d).mono fun y c=>by have r:pS (iC v1 v2 v8 v9 (i:Int)) .normal (iC v1 v2 a v9 (inc (i:Int))):=RP [O3 (v9.length:Int),.b true,.row (etS hd),.ret [OX ((c8 hd v1 v2).1),OX ((c8 hd v1 v2).2.1),OX ((c8 hd v1 v2).2.2.1),OY true],.lp (.exit 2) (oj v1 v2 v9 (i:Int) a)] (ALn v9 etS<|AC hb<|AG etS f<|AD (sT hd v1 v2 g j)<|AL m<|AN);rw[l]at r;cases y<;>exact OP r c
  ·exact OO (OQ (show pS (iC v1 v2 v8 v9 (i:Int)) .ret (m9 ([]) false)from RP [O3 (v9.length:Int),.b true,.row (etS hd),.ret [OX ((c8 hd v1 v2).1),OX ((c8 hd v1 v2).2.1),OX ((c8 hd v1 v2).2.2.1),OY false]] (ALn v9 etS<|AC hb<|AG etS f<|AD (sT hd v1 v2 g j)<|AN)) (by intro h;cases h))
noncomputable def it (x0:ByteArray)(e x2:Int):Option ((List Int)×Bool):=
  if 0≤(inc x2)∧(inc x2)≤(inc x2)∧((1:Nat):Int)*(inc x2)≤281474976710656∧(inc x2)≤4611686018427387904 then if x0.size≤2000000 then if 0≤(44:Int)∧(44:Int)<256 then if(ak x0 44).length≤9223372036854775807 then(eF e x2 (ak x0 44) 0 (List.replicate (inc x2).toNat false)).bind fun y=>match y with
   | .ret b c=>(some (b,c))
   | .x0 d=>((fA x2 d 9223372036854775808 ([]) e).bind fun y=>match y with
    | .x4 a=>(some (a,true)))else none else none else none else none
theorem FX (x0:ByteArray)(d x2:Int):Ans (it x0 d x2) (fun r=>Does E 81 [O2 x0,O0 d,O0 x2] [(false,[.s .own () 1 (r.1.map etI)]),OY r.2]):=by
 unfold it;refine OT (fun i => ?_);refine OT (fun j => ?_);refine OT (fun k => ?_);refine OT (fun g => ?_);refine OS (fun y a => ?_);replace a:=Dl d x2 (ak x0 44) (ak x0 44) 0 (List.replicate (inc x2).toNat false) rfl g y a;cases y with
 |ret e f =>have h:=a;exact OO (DP Tryz.f81 [.rows ((List.replicate (inc x2).toNat false).map etB),.ret [(false,[.s .own () 1 ((ak x0 44).map etS)])],.lp .ret (m9 e f)] (AC i<|AC (p:=List.replicate (inc x2).toNat [tB false]=(List.replicate (inc x2).toNat false).map etB) (py rfl)<|AD (a8 x0 44 j k)<|AL h<|AN))
 |x0 b =>
  have h:=a;refine OS (fun y a => ?_);replace a:=Dn x2 b 9223372036854775808 ([]) d y a;cases y with
  |x4 c =>have l:=a;exact OO (DP Tryz.f81 [.rows ((List.replicate (inc x2).toNat false).map etB),.ret [(false,[.s .own () 1 ((ak x0 44).map etS)])],.lp (.exit 0) (oi d x2 b),.lp (.exit 4) (ol c)] (AC i<|AC (p:=List.replicate (inc x2).toNat [tB false]=(List.replicate (inc x2).toNat false).map etB) (py rfl)<|AD (a8 x0 44 j k)<|AL h<|AL l<|AN))
inductive rN where|x2 (v8:List Int)
def kP (v6 v7:Int)(v8:List Int)(a b c:Int)(v22:List ByteArray)(d v24:Int):US:=stL 56 [(6,O0 v6),(7,O0 v7),(8,.one (.s .own () 1 (v8.map etI))),(12,O0 a),(13,O0 b),(15,O0 c),(22,.one (.s .own () 1 (v22.map etS))),(23,O0 d),(24,O0 v24)]
def me (v6 v7:Int)(v22:List ByteArray)(a v24:Int)(b:List Int):US:=stL 56 [(6,O0 v6),(7,O0 v7),(8,.one (.s .own () 1 (b.map etI))),(22,.one (.s .own () 1 (v22.map etS))),(23,O0 a),(24,O0 v24)]
abbrev rL:US→Exit→US→Prop:=Round E 107 (av Tryz.f107 1)
def zS (v6 v7:Int)(v8:List Int)(b c d:Int)(v22:List ByteArray)(a v24:Int):rN→Prop| .x2 e=>Loops E 107 (av Tryz.f107 1) (kP v6 v7 v8 b c d v22 a v24) (.exit 2) (me v6 v7 v22 a v24 e)
noncomputable def gy (b c:Int):Nat→(List Int)→Int→Option rN| 0,_,_=>none|n+1,v8,a=>cond (decide (a≤b)) (if(v8.length+([a]).length)*8≤140737488355328∧v8.length+([a]).length≤4611686018427387904 then gy b c n (v8++([a])) (IntKind.wrap .i64 (a+c))else none) (some (.x2 v8))
theorem zQ (v6 v7 c b:Int)(v22:List ByteArray)(d v24:Int)(n:Nat):∀(v8:List Int)(a:Int),Ans (gy c b n v8 a) (zS v6 v7 v8 c b a v22 d v24):=by
 induction n with
 |zero=>intros;exact Ans.none
 |succ n f =>
  intro v8 a;unfold gy;apply OR<;>intro e
  ·refine OT (fun g => ?_);have r:rL (kP v6 v7 v8 c b a v22 d v24) .normal (kP v6 v7 (v8++([a])) c b (IntKind.wrap .i64 (a+b)) v22 d v24):=RP [.b true,.rows ((v8++([a])).map etI)] (AC e<|AAp etI (fun _=>rfl) g<|AN);exact(f (v8++([a])) (IntKind.wrap .i64 (a+b))).mono fun y i=>by cases y<;>exact OP r i
  ·exact OO (OQ (show rL (kP v6 v7 v8 c b a v22 d v24) (.exit 2) (me v6 v7 v22 d v24 v8)from RP [.b false] (AC e<|AN)) (by intro h;cases h))
inductive rM where|ret (v4:List Int) (v5:Bool)|x0 (v8:List Int)
def gw (v6 v7:Int)(v8:List Int)(v22:List ByteArray)(a v24:Int):US:=stL 56 [(6,O0 v6),(7,O0 v7),(8,.one (.s .own () 1 (v8.map etI))),(22,.one (.s .own () 1 (v22.map etS))),(23,O0 a),(24,O0 v24)]
def lc (a:List Int)(b:Bool):US:=stL 56 [(4,.one (.s .own () 1 (a.map etI))),(5,O1 b)]
def md (a:List Int):US:=stL 56 [(8,.one (.s .own () 1 (a.map etI)))]
abbrev nP:US→Exit→US→Prop:=Round E 107 (av Tryz.f107 0)
def zR (v6 v7:Int)(v8:List Int)(v22:List ByteArray)(a v24:Int):rM→Prop| .ret b c=>Loops E 107 (av Tryz.f107 0) (gw v6 v7 v8 v22 a v24) .ret (lc b c)| .x0 d=>Loops E 107 (av Tryz.f107 0) (gw v6 v7 v8 v22 a v24) (.exit 0) (md d)
noncomputable def dt (v6 v7:Int):List ByteArray→Nat→(List Int)→Option rM
 |[],i,v8=>some (.x0 v8)
 |hd::rest,i,v8=>if hd.size≤2000000 then cond ((cZ hd v6 v7).2.2.2)
  ((gy ((cZ hd v6 v7).2.1) ((cZ hd v6 v7).2.2.1) 9223372036854775808 v8 ((cZ hd v6 v7).1)).bind fun y=>match y with
   | .x2 a=>(dt v6 v7 rest (i+1) a))
  (some (.ret ([]) false))else none
theorem zP (v6 v7:Int)(v22:List ByteArray)(rest:List ByteArray):∀(i:Nat)(v8:List Int),(v22).drop i=rest→v22.length≤9223372036854775807→Ans (dt v6 v7 rest i v8) (zR v6 v7 v8 v22 (v22.length:Int) (i:Int)):=by
 induction rest with
 |nil =>intro i v8 b d;have hb:=aZ b;unfold dt;exact OO (OQ (show nP (gw v6 v7 v8 v22 (v22.length:Int) (i:Int)) (.exit 0) (md v8)from RP [.b false] (AC hb<|AN)) (by intro h;cases h))
 |cons hd rest k =>
  intro i v8 b d;have hb:=aT b;have l:=aU b d;have e:=aE b;have f:=aW b;unfold dt;refine OT (fun g => ?_);apply OR<;>intro j
  ·refine OS (fun y c => ?_);replace c:=zQ v6 v7 ((cZ hd v6 v7).2.1) ((cZ hd v6 v7).2.2.1) v22 (v22.length:Int) (i:Int) 9223372036854775808 v8 ((cZ hd v6 v7).1) y c;cases y with
   |x2 a =>have m:=c;exact(k (i+1) a e d).mono fun y c=>by have r:nP (gw v6 v7 v8 v22 (v22.length:Int) (i:Int)) .normal (gw v6 v7 a v22 (v22.length:Int) (inc (i:Int))):=RP [.b true,.row (etS hd),.ret [OX ((cZ hd v6 v7).1),OX ((cZ hd v6 v7).2.1),OX ((cZ hd v6 v7).2.2.1),OY true],.lp (.exit 2) (me v6 v7 v22 (v22.length:Int) (i:Int) a)] (AC hb<|AG etS f<|AD (uW hd v6 v7 g j)<|AL m<|AN);rw[l]at r;cases y<;>exact OP r c
  ·exact OO (OQ (show nP (gw v6 v7 v8 v22 (v22.length:Int) (i:Int)) .ret (lc ([]) false)from RP [.b true,.row (etS hd),.ret [OX ((cZ hd v6 v7).1),OX ((cZ hd v6 v7).2.1),OX ((cZ hd v6 v7).2.2.1),OY false]] (AC hb<|AG etS f<|AD (uW hd v6 v7 g j)<|AN)) (by intro h;cases h))
noncomputable def hJ (x0:ByteArray)(d:Int):Option ((List Int)×Bool):=
  if x0.size<4294967281 then if 1≤(⟨#[44]⟩:ByteArray).size then if(dY x0 (⟨#[44]⟩:ByteArray)).length≤9223372036854775807 then(dt ((aG d).1) ((aG d).2) (dY x0 (⟨#[44]⟩:ByteArray)) 0 ([])).bind fun y=>match y with
   | .ret b c=>(some (b,c))
   | .x0 a=>(if a.length<4611686018427387904 then if(cJ a).length≤9223372036854775807 then some (id (ja (cJ a)),true)else none else none)else none else none else none
theorem A7 (x0:ByteArray)(b:Int):Ans (hJ x0 b) (fun r=>Does E 107 [O2 x0,O0 b] [(false,[.s .own () 1 (r.1.map etI)]),OY r.2]):=by
 unfold hJ;refine OT (fun h => ?_);refine OT (fun i => ?_);refine OT (fun f => ?_);refine OS (fun y e => ?_);replace e:=zP ((aG b).1) ((aG b).2) (dY x0 (⟨#[44]⟩:ByteArray)) (dY x0 (⟨#[44]⟩:ByteArray)) 0 ([]) rfl f y e;cases y with
 |ret c d =>have g:=e;exact OO (DP Tryz.f107 [.ret [OX ((aG b).1),OX ((aG b).2)],.ret [(false,[.s .own () 1 ((dY x0 (⟨#[44]⟩:ByteArray)).map etS)])],O3 ((dY x0 (⟨#[44]⟩:ByteArray)).length:Int),.lp .ret (lc c d)] (AD (cg b)<|AD (kL x0 (⟨#[44]⟩:ByteArray) h i)<|ALn (dY x0 (⟨#[44]⟩:ByteArray)) etS<|AL g<|AN))
 |x0 a =>have g:=e;refine OT (fun j => ?_);refine OT (fun l => ?_);exact OO (DP Tryz.f107 [.ret [OX ((aG b).1),OX ((aG b).2)],.ret [(false,[.s .own () 1 ((dY x0 (⟨#[44]⟩:ByteArray)).map etS)])],O3 ((dY x0 (⟨#[44]⟩:ByteArray)).length:Int),.lp (.exit 0) (md a),.ret [(false,[.s .own () 1 ((cJ a).map etI)])],.ret [(false,[.any]),(false,[.s .own () 1 ((ja (cJ a)).map etI)])],.ret [(false,[.any]),(false,[.s .own () 1 ((id (ja (cJ a))).map etI)])]] (AD (cg b)<|AD (kL x0 (⟨#[44]⟩:ByteArray) h i)<|ALn (dY x0 (⟨#[44]⟩:ByteArray)) etS<|AL g<|AC (p:=(a.map etI).length=(a.map etI).length) rfl<|AV (ψ:=fun k=>E.C k 52 [.one (.s .own () 1 (a.map etI))]=some [(false,[.s .own () 1 ((cJ a).map etI)])]) (mb a j)<|AV (ψ:=fun k=>E.C k 124 [.one (.s .own () 1 ((cJ a).map etI))]=some [(false,[.any]),(false,[.s .own () 1 ((ja (cJ a)).map etI)])]) (t8 (cJ a) l)<|AV (ψ:=fun k=>E.C k 123 [.one (.s .own () 1 ((ja (cJ a)).map etI))]=some [(false,[.any]),(false,[.s .own () 1 ((id (ja (cJ a))).map etI)])]) (xy (ja (cJ a)))<|AN))
def Marks (lo hi:Int)(a:List Bool)(l:List Int):Prop :=(a.length:Int)=hi+1∧(∀x∈l,lo≤x∧x≤hi)∧∀j:Nat,(j:Int)≤hi→(a[j]?=some true↔(j:Int)∈l)
theorem Marks.add {lo hi:Int}{a:List Bool}{l:List Int}(h:Marks lo hi a l)(i:0≤lo){x:Int}(b:lo≤x∧x≤hi):Marks lo hi (a.set x.toNat true) (l++[x]):=by
 obtain⟨c,d,f⟩:=h;refine⟨by rw[Q5];exact c,fun y hy => ?_,fun j g => ?_⟩
 ·rcases PE.1 hy with hy|hy
  ·exact d y hy
  ·rw[Pe]at hy;subst hy;exact b
 ·rw[PE,Pe,R4];by_cases e:x.toNat=j
  ·rw[O6 e,O6 (by omega)];exact⟨fun _ => .inr (by omega),fun _=>rfl⟩
  ·rw[Pj e,f j g];exact⟨.inl,fun h=>h.resolve_right (by omega)⟩
theorem FL (lo hi b st:Int)(m:0≤lo)(f:hi≤59)(hb:b≤hi)(o:1≤st)(p:st≤1000000000):∀(k n:Nat)(a:Int)(c:List Bool)(l:List Int),(b-a+1).toNat≤k→k<n→lo≤a→a≤1000000100→Marks lo hi c l→l.length+k≤1000000000 →
  ∃d l',iE b st n c a=some (.x2 d)∧gy b st n l a=some (.x2 l')∧Marks lo hi d l'∧l'.length≤l.length+k∧(a≤b∨l≠[]→l'≠[])
 |k,0,a,c,l,_,r,_,_,_,_=>by omega
 |k,n+1,a,c,l,z,r,A,s,i,B=>by
  unfold iE gy;by_cases q:a≤b
  ·obtain⟨g,t,_⟩:=eO (l:=c) (k:=a) (by have:=i.1;omega);obtain⟨k,rfl⟩:∃j,k=j+1:=⟨k-1,by omega⟩
   have e:IntKind.wrap .i64 (a+st)=a+st:=dn _ (by omega) (by omega);obtain⟨d,l',u,v,w,x,y⟩:=FL lo hi b st m f hb o p k n (a+st) (c.set a.toNat true) (l++[a]) (by omega) (by omega) (by omega) (by omega) (i.add m (by omega)) (by simp;omega);refine⟨d,l',?_,?_,w,by simp at x;omega,fun _=>y (.inr (by simp))⟩
   ·rw[Ph q,Pk,t,O5,e];exact u
   ·rw[Ph q,Pk,O6 (by simp;omega),e];exact v
  ·rw[Pg q];exact⟨c,l,rfl,rfl,i,by omega,fun h=>h.resolve_left q⟩
theorem xQ (lo hi:Int)(s:0≤lo)(k:lo≤hi)(m:hi≤59):∀(f:List ByteArray)(i:Nat)(c:List Bool)(l:List Int),(∀p∈f,p.size≤2000000)→Marks lo hi c l→l.length+f.length*60≤1000000000 →
  (eF lo hi f i c=some (.ret [] false)∧dt lo hi f i l=some (.ret [] false)) ∨
  ∃d l',eF lo hi f i c=some (.x0 d)∧dt lo hi f i l=some (.x0 l')∧Marks lo hi d l'∧l'.length≤l.length+f.length*60∧(f≠[]∨l≠[]→l'≠[])
 |[],i,c,l,_,o,_ => .inr ⟨c,l,rfl,rfl,o,by simp,fun h=>h.resolve_left fun h=>h rfl⟩
 |p::f,i,c,l,t,o,u=>by
  have q:=t p (by simp);obtain⟨-,g⟩:=Cv p lo hi q;obtain⟨-,j⟩:=Cu p lo hi q;unfold eF dt;simp only[O6 q];cases e:uH p lo hi with
  |none =>rw[e]at g j;have g:(c8 p lo hi).2.2.2=false:=g;have j:(cZ p lo hi).2.2.2=false:=j;rw[g,j];exact .inl ⟨rfl,rfl⟩
  |some x =>
   obtain⟨a,b,st⟩:=x;rw[e]at g j;have g:c8 p lo hi=(a,b,st,true):=g;have j:cZ p lo hi=(a,b,st,true):=j;obtain⟨v,a2,a3,a4,a5⟩:=Ml k e;simp only[PH]at u;obtain⟨d,l',w,y,z,D,A⟩:=FL lo hi b st s m a3 a4 a5 60 9223372036854775808 a c l (by omega) (by omega) v (by omega) o (by omega);rw[g,j];simp only[Pk,w,y,O5];rcases xQ lo hi s k m f (i+1) d l' (fun p r=>t p (by simp[r])) z (by omega)with h|⟨n,l2,g1,B,g3,g4,C⟩
   ·exact .inl h
   ·exact .inr ⟨n,l2,g1,B,g3,by rw[PH];omega,fun _=>C (.inr (A (.inl a2)))⟩
theorem JA (hi:Int)(c:List Bool)(hh:(c.length:Int)=hi+1)(d:hi≤59):∀(k n:Nat)(x:Int)(v:List Int),(hi-x+1).toNat≤k→k<n→0≤x→x≤100→v.length+k≤1000→v.Pairwise (· < ·)→(∀y∈v,y<x) →
  ∃w,fA hi c n v x=some (.x4 w)∧w.Pairwise (· < ·)∧∀y,y∈w↔y∈v∨(x≤y∧y≤hi∧c[y.toNat]?=some true)
 |k,0,x,v,_,u,_,_,_,_,_=>by omega
 |k,n+1,x,v,C,u,D,A,F,i,m=>by
  unfold fA;by_cases q:x≤hi
  ·obtain⟨g,t,_⟩:=eO (l:=c) (k:=x) (by omega);have f:=(jO t).2;obtain⟨k,rfl⟩:∃j,k=j+1:=⟨k-1,by omega⟩
   have e:inc x=x+1:=fH _ (by omega) (by omega);rw[Ph q,Pk,t,O5];cases g with
   |true =>
    obtain⟨w,o,p,r⟩:=JA hi c hh d k n (x+1) (v++[x]) (by omega) (by omega) (by omega) (by omega) (by simp;omega)
     (by rw[Ro];exact⟨i,by simp,fun a B b hb=>by rw[Pe]at hb;subst hb;exact m a B⟩)
     (fun y s=>by rcases PE.1 s with h|h;have:=m y h;omega;rw[Pe]at h;omega)
    refine⟨w,by rw[Pk,O6 (by simp;omega),e];exact o,p,fun y => ?_⟩;rw[r,PE,Pe];constructor
    ·rintro((h|rfl)|h)
     ·exact .inl h
     ·exact .inr ⟨Qe _,q,f⟩
     ·exact .inr ⟨by omega,h.2⟩
    ·rintro(h|h)
     ·exact .inl (.inl h)
     ·by_cases z:y=x
      ·exact .inl (.inr z)
      ·exact .inr ⟨by omega,h.2⟩
   |false =>
    obtain⟨w,o,p,r⟩:=JA hi c hh d k n (x+1) v (by omega) (by omega) (by omega) (by omega) (by omega) i (fun y s=>by have:=m y s;omega);refine⟨w,by rw[Pt,e];exact o,p,fun y => ?_⟩;rw[r];constructor
    ·rintro(h|h)
     ·exact .inl h
     ·exact .inr ⟨by omega,h.2⟩
    ·rintro(h|h)
     ·exact .inl h
     ·by_cases z:y=x
      ·subst z;rw[f]at h;exact absurd h.2.2 (by simp)
      ·exact .inr ⟨by omega,h.2⟩
  ·rw[Pg q];exact⟨v,rfl,i,fun y=>⟨.inl,fun h=>h.resolve_right fun h=>by omega⟩⟩
theorem uK (lo hi:Int):∀(l:List Int)(a:Int),l.Pairwise (· < ·)→(∀x∈l,a≤x∧x≤hi)→a≤hi+1→(l.length:Int)≤hi+1-a
 |[],a,_,_,h=>by simp;omega
 |x::l,a,b,c,h=>by rw[RT]at b;have:=c x (by simp);have:=uK lo hi l (x+1) b.2 (fun y d=>⟨by have:=b.1 y d;omega,(c y (by simp[d])).2⟩) (by omega);simp;omega
noncomputable def ac (s:ByteArray)(lo hi:Int):List Int×Bool:=(it s lo hi).getD ([],false)
noncomputable def aQ (s:ByteArray)(i:Int):List Int×Bool:=ac s (aG i).1 (aG i).2
def JZ (lo hi:Int)(r:List Int×Bool):Prop:=(r.2=false∧r.1=[])∨(r.2=true∧r.1.Pairwise (· < ·)∧r.1≠[]∧(∀x∈r.1,lo≤x∧x≤hi)∧r.1.length≤60)
theorem yC (s:ByteArray)(lo hi:Int)(hs:s.size≤2000000)(hb:0≤lo∧lo≤hi∧hi≤59):it s lo hi=some (ac s lo hi)∧JZ lo hi (ac s lo hi)∧∀i,aG i=(lo,hi)→hJ s i=some (ac s lo hi):=by
 obtain⟨M,C,f⟩:=hb;have g:inc hi=hi+1:=fH _ (by omega) (by omega);have S:=yw 44 (tx s);rw[←dm]at S;have B:ak s 44=(bR 44 (tx s)).map ofTx:=rfl;have N:(ak s 44).length≤2000001:=by rw[B,PI];omega
 have D:∀p∈ak s 44,p.size≤2000000:=fun p O=>by rw[B]at O;obtain⟨x,k,rfl⟩:=Pu.1 O;have:=yy _ _ x k;rw[px];rw[←dm]at this;omega
 have U:Marks lo hi (List.replicate (inc hi).toNat false) []:=by refine⟨by rw[List.length_replicate,g];omega,fun x k=>(by cases k),fun j hj => ?_⟩;rw[Re,O6 (by omega)];simp
 have F:ak s 44≠[]:=by obtain⟨x,xs,e⟩:=iz 44 (tx s);rw[B,e];simp
 have hc:((0:Int)≤44∧(44:Int)<256)=True:=Rb (by decide);have pre:(s.size≤2000000)=True:=Rb hs;have P:∀i,aG i=(lo,hi)→∀r,(dt lo hi (ak s 44) 0 []).bind (fun y=>match y with
   | .ret m n=>(some (m,n))
   | .x0 a=>(if a.length<4611686018427387904 then if(cJ a).length≤9223372036854775807 then some (id (ja (cJ a)),true)else none else none))=some r→hJ s i=some r:=fun i hi r V=>by
  unfold hJ;rw[O6 (by omega),O6 (by decide),Ar, ←B,O6 (by omega),hi];exact V
 have d:it s lo hi=(eF lo hi (ak s 44) 0 (List.replicate (inc hi).toNat false)).bind fun y=>match y with
   | .ret o u=>(some (o,u))
   | .x0 a=>((fA hi a 9223372036854775808 ([]) lo).bind fun y=>match y with
    | .x4 c=>(some (c,true))):=by
  unfold it;simp only[hc,pre,PK];rw[O6 (by omega),O6 (by omega)]
 rcases xQ lo hi M C f (ak s 44) 0 _ [] D U (by simp;omega)with⟨G,H⟩|⟨I,l,G,H,v,Q,W⟩
 ·rw[G]at d;have A:it s lo hi=some ([],false):=d;have e:ac s lo hi=([],false):=by unfold ac;rw[A];rfl
  rw[e];exact⟨A,.inl ⟨rfl,rfl⟩,fun i hi=>P i hi _ (by rw[H];rfl)⟩
 ·obtain⟨w,X,J,Y⟩:=JA hi I v.1 f 60 9223372036854775808 lo [] (by omega) (by omega) M (by omega) (by simp) (by simp) (fun y Z=>by cases Z);have K:∀y,y∈w↔y∈l:=fun y=>by
   rw[Y];constructor
   ·rintro(h|⟨a1,a2,a3⟩)
    ·cases h
    ·have:=(v.2.2 y.toNat (by omega)).1 a3
     rwa [show((y.toNat:Nat):Int)=y by omega]at this
   ·intro h;have b:=v.2.1 y h;refine .inr ⟨b.1,b.2,(v.2.2 y.toNat (by omega)).2 ?_⟩
    rwa [show((y.toNat:Nat):Int)=y by omega]
  obtain⟨c1,c2⟩:=Ga l;have e3:ja (cJ l)=w:=r6 c1 J fun y=>(c2 y).trans (K y).symm
  rw[G,O5]at d;simp only[X,O5]at d;have e:ac s lo hi=(w,true):=by unfold ac;rw[d];rfl
  rw[e];have R:∀x∈w,lo≤x∧x≤hi:=fun x k=>v.2.1 x ((K x).1 k)
  have wl:=uK lo hi w lo J R (by omega);refine⟨d,.inr ⟨rfl,J,fun z => ?_,R,by show w.length≤60;omega⟩,fun i hi=>P i hi _ ?_⟩
  ·have L:=W (.inl F);cases q:l with
   |nil=>exact L q
   |cons x t=>have:=(K x).2 (by rw[q];simp);rw[show w=[]from z]at this;cases this
  ·rw[H,O5];simp only;have sl:(cJ l).length=l.length:=RC l;rw[sl,O6 (by simp at Q;omega),O6 (by simp at Q;omega),e3];rfl
theorem Df (s:ByteArray)(i:Int)(hs:s.size≤2000000):hJ s i=some (aQ s i):=(yC s _ _ hs (J7 i)).2.2 i rfl
theorem eo (x0:ByteArray)(a:Int)(x2:Int)(h:x0.size≤2000000)(hb:0≤a∧a≤x2∧x2≤59):Does E 81 [O2 x0,O0 a,O0 x2] [(false,[.s .own () 1 (((ac x0 a x2).1).map etI)]),OY ((ac x0 a x2).2)]:=by exact FX x0 a x2 _ (yC x0 a x2 h hb).1
theorem AH (x0:ByteArray)(a:Int)(h:x0.size≤2000000):Does E 107 [O2 x0,O0 a] [(false,[.s .own () 1 (((aQ x0 a).1).map etI)]),OY ((aQ x0 a).2)]:=by exact A7 x0 a _ (Df x0 a h)
theorem ct (x0:ByteArray)(a:Int)(h:x0.size≤2000000){c:Bool}(b:(aQ x0 a).2=c):Does E 107 [O2 x0,O0 a] [(false,[.s .own () 1 (((aQ x0 a).1).map etI)]),OY c]:=by rw[←b];exact AH x0 a h
end
end Go.Proofs.YtjlkcjlcmaoccaaGreatDoor.Am
