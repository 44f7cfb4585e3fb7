/- Numbers in words. -/
import Derived.Test.YtkgecjmfkcohkaaGreatDoorEnv
import Derived.Test.YtkgecjmfkcohkaaGreatDoorShelf
namespace Go.Proofs.YtkgecjmfkcohkaaGreatDoor.Am
open Go
set_option linter.unusedVariables false
set_option linter.unusedSimpArgs false
section
open Go.Proofs Classical
set_option maxRecDepth 100000
structure GCron where
 f0:List Int
 f1:List Int
 f2:List Int
 f3:List Int
 f4:List Int
def GCron.t (k:Kd)(x:GCron):List (T Unit):=[.s k () 1 (x.f0.map etI),.s k () 1 (x.f1.map etI),.s k () 1 (x.f2.map etI),.s k () 1 (x.f3.map etI),.s k () 1 (x.f4.map etI)]
instance:ae GCron:=⟨fun x=>ae.sm x.f0∧ae.sm x.f1∧ae.sm x.f2∧ae.sm x.f3∧ae.sm x.f4⟩
instance:Wf GCron:=⟨fun x=>Wf.wf x.f0∧Wf.wf x.f1∧Wf.wf x.f2∧Wf.wf x.f3∧Wf.wf x.f4⟩
structure GTask where
 f0:ByteArray
 f1:ByteArray
 f2:Int
 f3:Bool
 f4:List ByteArray
def GTask.t (k:Kd)(x:GTask):List (T Unit):=[tS x.f0,tS x.f1,tI x.f2,tB x.f3,.s k () 1 (x.f4.map etS)]
instance:ae GTask:=⟨fun x=>ae.sm x.f0∧ae.sm x.f1∧ae.sm x.f4⟩
instance:Wf GTask:=⟨fun x=>Wf.wf x.f0∧Wf.wf x.f1∧Wf.wf x.f4⟩
structure GDag where
 f0:ByteArray
 f1:ByteArray
 f2:Int
 f3:Int
 f4:Bool
 f5:List GTask
def GDag.t (k q:Kd)(x:GDag):List (T Unit):=[tS x.f0,tS x.f1,tI x.f2,tI x.f3,tB x.f4,.s k () 5 (x.f5.map (GTask.t q))]
instance:ae GDag:=⟨fun x=>ae.sm x.f0∧ae.sm x.f1∧ae.sm x.f5⟩
instance:Wf GDag:=⟨fun x=>Wf.wf x.f0∧Wf.wf x.f1∧Wf.wf x.f5⟩
structure LDag where
 f0:ByteArray
 f1:ByteArray
 f2:Int
 f3:Int
 f4:Bool
 f5:List GTask
def LDag.t (k q:Kd)(x:LDag):List (T Unit):=[tS x.f0,tS x.f1,tI x.f2,tI x.f3,tB x.f4,.s k () 5 (x.f5.map (GTask.t q))]
instance:ae LDag:=⟨fun x=>ae.sm x.f0∧ae.sm x.f1∧ae.sm x.f5⟩
instance:Wf LDag:=⟨fun x=>Wf.wf x.f0∧Wf.wf x.f1∧Wf.wf x.f5⟩
structure GSpan where
 f0:Int
 f1:Int
def GSpan.t (x:GSpan):List (T Unit):=[tI x.f0,tI x.f1]
instance:ae GSpan:=⟨fun x=>True⟩
instance:Wf GSpan:=⟨fun x=>True⟩
structure GState where
 f0:Int
 f1:Int
 f2:Int
 f3:Int
def GState.t (x:GState):List (T Unit):=[tI x.f0,tI x.f1,tI x.f2,tI x.f3]
instance:ae GState:=⟨fun x=>True⟩
instance:Wf GState:=⟨fun x=>True⟩
structure GRun where
 f0:ByteArray
 f1:GSpan
 f2:Int
 f3:List GState
def GRun.t (k:Kd)(x:GRun):List (T Unit):=[tS x.f0]++GSpan.t x.f1++[tI x.f2]++[.s k () 4 (x.f3.map GState.t)]
instance:ae GRun:=⟨fun x=>ae.sm x.f0∧ae.sm x.f1∧ae.sm x.f3⟩
instance:Wf GRun:=⟨fun x=>Wf.wf x.f0∧Wf.wf x.f1∧Wf.wf x.f3⟩
structure LRun where
 f0:ByteArray
 f1:GSpan
 f2:Int
 f3:List GState
def LRun.t (k:Kd)(x:LRun):List (T Unit):=[tS x.f0]++GSpan.t x.f1++[tI x.f2]++[.s k () 4 (x.f3.map GState.t)]
instance:ae LRun:=⟨fun x=>ae.sm x.f0∧ae.sm x.f1∧ae.sm x.f3⟩
instance:Wf LRun:=⟨fun x=>Wf.wf x.f0∧Wf.wf x.f1∧Wf.wf x.f3⟩
def dR (s a:ByteArray):List ByteArray:=Lib.splitB a 0 (Lib.countB s a) s
def aW (xs:List ByteArray)(a:ByteArray):ByteArray:=⟨(Lib.join (xs.map (·.data.toList)) a.data.toList).toArray⟩
def bp (n:Int):ByteArray:=⟨(Lib.itoa n).toArray⟩
def aK (s a:ByteArray):ByteArray×ByteArray×Bool:=(⟨(Lib.cut s.data.toList a.data.toList).1.toArray⟩,⟨(Lib.cut s.data.toList a.data.toList).2.1.toArray⟩,(Lib.cut s.data.toList a.data.toList).2.2)
def bS (s p:ByteArray):ByteArray×Bool:=(⟨(Lib.trimPrefix s.data.toList p.data.toList).toArray⟩,Lib.hasPrefix s.data.toList p.data.toList)
noncomputable def dO (l:List Int):List Int:=l.mergeSort fun x y=>decide (x≤y)
noncomputable def iS (l:List Int):List Int:=Lib.compact l
theorem kk (x0 a:ByteArray)(b:x0.size<4294967281)(c:1≤a.size):Does E 103 [N1 x0,N1 a] [(false,[.s .own () 1 ((dR x0 a).map etS)])]:=by
 refine Does.orc ⟨0,fun k _ => ?_⟩;have o:∀C us,E.orc C 103 us=zA us:=fun _ _=>rfl
 refine(o _ _).trans ?_;show(if _ then _ else _)=_;rw[N5 ⟨b,c⟩];rfl
theorem ek (x0 a:ByteArray)(b:x0.size<4294967281):Does E 117 [N1 x0,N1 a] [NY (aK x0 a).1,NY (aK x0 a).2.1,NX (aK x0 a).2.2]:=by
 refine Does.orc ⟨0,fun k _ => ?_⟩;have o:∀C us,E.orc C 117 us=HA us:=fun _ _=>rfl
 refine(o _ _).trans ?_;show(if _ then _ else _)=_;rw[N5 b];rfl
theorem bJ (x0 a:ByteArray)  : Does E 115 [N1 x0,N1 a] [NY (bS x0 a).1,NX (bS x0 a).2]:=by
 refine Does.orc ⟨0,fun k _ => ?_⟩;have o:∀C us,E.orc C 115 us=pv us:=fun _ _=>rfl
 refine(o _ _).trans ?_;rfl
theorem zP (x0:Int)(h : -9223372036854775808≤x0∧x0≤9223372036854775807):Does E 108 [NZ x0] [NY (bp x0)]:=by
 refine Does.orc ⟨0,fun k _ => ?_⟩;have o:∀C us,E.orc C 108 us=CU us:=fun _ _=>rfl
 refine(o _ _).trans ?_;show(if _ then _ else _)=_;rw[N5 h];rfl
theorem gQ (x0:List ByteArray)(a:ByteArray)(h:x0.length≤140737488355328∧(aW x0 a).size≤140737488355328):Does E 98 [.one (.s .far () 1 (x0.map etS)),N1 a] [NY (aW x0 a)]:=by
 refine Does.orc ⟨0,fun k _ => ?_⟩;have o:∀C us,E.orc C 98 us=CV us:=fun _ _=>rfl
 refine(o _ _).trans ?_;show(qG _).bind _=_;rw[zD,N4,N5 ⟨h.1,h.2⟩];rfl
theorem pp (x0:List Int)(h:x0.length<4611686018427387904):Does E 100 [.one (.s .own () 1 (x0.map etI))] [(false,[.s .own () 1 ((dO x0).map etI)])]:=by
 refine Does.orc ⟨0,fun k _ => ?_⟩;have o:∀C us,E.orc C 100 us=CZ us:=fun _ _=>rfl
 refine(o _ _).trans ?_;show(kJ _).bind _=_;rw[pD,N4,N5 h];rfl
theorem tc (x0:List Int)(h:x0.length≤9223372036854775807):Does E 107 [.one (.s .own () 1 (x0.map etI))] [(false,[.any]),(false,[.s .own () 1 ((iS x0).map etI)])]:=by
 refine Does.orc ⟨0,fun k _ => ?_⟩;have o:∀C us,E.orc C 107 us=tn us:=fun _ _=>rfl
 refine(o _ _).trans ?_;show(kJ _).bind _=_;rw[pD,N4,N5 h];rfl
theorem wN (x0:List Int)  : Does E 106 [.one (.s .own () 1 (x0.map etI))] [(false,[.any]),(false,[.s .own () 1 ((id x0).map etI)])]:=by
 refine Does.orc ⟨0,fun k _ => ?_⟩;have o:∀C us,E.orc C 106 us=CR us:=fun _ _=>rfl
 refine(o _ _).trans ?_;show(kJ _).bind _=_;rw[pD,N4];rfl
def ag (x a b:Int):Bool:=decide (x≥a)&&decide (x≤b)
theorem F4 {α:Type}{l:List α}{k:Int}(h:ag k 0 (IntKind.wrap .i64 ((l.length:Int)-1))=true)(a:l.length≤1050000):0≤k∧k<(l.length:Int):=by unfold ag at h;rw[du _ (by omega) (by omega)]at h;simp only[Ow,O4]at h;omega
theorem fi {α:Type}{l:List α}{k:Int}(h:0≤k∧k<(l.length:Int)):∃x,ap l k=some x∧x∈l:=by unfold ap;rw[N5 h.1,Oa (by omega)];exact⟨_,rfl,PE _⟩
noncomputable def wn (x0 a x2:Int):Option (Bool):=cond (decide (x0≥a)) (some (decide (x0≤x2))) (some (false))
theorem Kk (x0 a x2:Int):Ans (wn x0 a x2) (fun r=>Does E 18 [NZ x0,NZ a,NZ x2] [NX r]):=by
 unfold wn;apply NQ<;>intro b
 ·exact NN (DP Tryz.f18 [.b true] (AC b<|AN))
 ·exact NN (DP Tryz.f18 [.b false] (AC b<|AN))
theorem ah (x0:Int)(a:Int)(x2:Int):Does E 18 [NZ x0,NZ a,NZ x2] [NX (ag x0 a x2)]:=by exact Kk x0 a x2 _ (by unfold wn ag;cases decide (x0≥a)<;>rfl)
noncomputable def rE (x0 a x2:Int):Option (Bool):=cond (decide (x0≥a)) (some (decide (x0≤x2))) (some (false))
theorem FY (x0 a x2:Int):Ans (rE x0 a x2) (fun r=>Does E 43 [NZ x0,NZ a,NZ x2] [NX r]):=by
 unfold rE;apply NQ<;>intro b
 ·exact NN (DP Tryz.f43 [.b true] (AC b<|AN))
 ·exact NN (DP Tryz.f43 [.b false] (AC b<|AN))
theorem ay (x0:Int)(a:Int)(x2:Int):Does E 43 [NZ x0,NZ a,NZ x2] [NX (ag x0 a x2)]:=by exact FY x0 a x2 _ (by unfold rE ag;cases decide (x0≥a)<;>rfl)
noncomputable def jW (x0:Int):Option (Int):=cond (decide (x0<(10:Int))) (some (IntKind.wrap .u8 (IntKind.wrap .i64 ((48:Int)+x0)))) (some (IntKind.wrap .u8 (IntKind.wrap .i64 ((IntKind.wrap .i64 ((97:Int)+x0))-(10:Int)))))
theorem Cl (x0:Int):Ans (jW x0) (fun r=>Does E 102 [NZ x0] [(false,[tY r])]):=by
 unfold jW;apply NQ<;>intro a
 ·exact NN (DP Tryz.f102 [.b true] (AC a<|AN))
 ·exact NN (DP Tryz.f102 [.b false] (AC a<|AN))
theorem LG {x:Int}(a:0≤x)(b:x<256):IntKind.wrap .u8 x=x:=by simp only[IntKind.wrap,IntKind.bits,IntKind.signed];simp;omega
noncomputable def cT (x:Int):Int:=(jW x).getD 0
theorem DD (d:Nat)(h:d<10):cT (d:Int)=48+(d:Int):=by unfold cT jW;rw[Of (by omega),Om,Qb,du _ (by omega) (by omega),LG (by omega) (by omega)]
theorem un (x0:Int):Does E 102 [NZ x0] [(false,[tY (cT x0)])]:=by exact Cl x0 _ (by unfold cT jW;cases decide (x0<10)<;>rfl)
noncomputable def rC (x0:Int):Option (ByteArray):=if -9223372036854775808≤x0∧x0≤9223372036854775807 then some (bp x0)else none
theorem FT (x0:Int):Ans (rC x0) (fun r=>Does E 97 [NZ x0] [NY r]):=by unfold rC;refine NS (fun a => ?_);exact NN (DP Tryz.f97 [.ret [NY (bp x0)]] (AD (zP x0 a)<|AN))
theorem rq (x0:Int)(h : -9223372036854775808≤x0∧x0≤9223372036854775807):Does E 97 [NZ x0] [NY (bp x0)]:=by exact FT x0 _ (by unfold rC;rw[N5 h])
inductive wj where|x0 (v4:ByteArray)
def jh (v0:Int)(v3:Bool)(v4:ByteArray):US:=stL 30 [(0,NZ v0),(3,N0 v3),(4,N1 v4)]
def lm (v3:Bool)(a:ByteArray):US:=stL 30 [(3,N0 v3),(4,N1 a)]
abbrev qA:US→Exit→US→Prop:=Round E 91 (aw Tryz.f91 0)
def EO (v0:Int)(v3:Bool)(v4:ByteArray):wj→Prop| .x0 a=>Loops E 91 (aw Tryz.f91 0) (jh v0 v3 v4) (.exit 0) (lm v3 a)
noncomputable def fR  : Nat→Int→Bool→ByteArray→Option wj| 0,_,_,_=>none|n+1,v0,v3,v4=>cond (v0 != 0) (cond (decide ((Int.tmod v0 (10:Int))<(0:Int))) (if(strOfNums ([cT (IntKind.wrap .i64 (0-(Int.tmod v0 10)))])).size+v4.size≤maxStr then fR n (IntKind.wrap .i64 (Int.tdiv v0 10)) v3 ((strOfNums ([cT (IntKind.wrap .i64 (0-(Int.tmod v0 10)))]))++v4)else none) (if(strOfNums ([cT (Int.tmod v0 10)])).size+v4.size≤maxStr then fR n (IntKind.wrap .i64 (Int.tdiv v0 10)) v3 ((strOfNums ([cT (Int.tmod v0 10)]))++v4)else none)) (some (.x0 v4))
theorem wi  (n:Nat):∀(v0:Int)(v3:Bool)(v4:ByteArray),Ans (fR n v0 v3 v4) (EO v0 v3 v4):=by
 induction n with
 |zero=>intros;exact Ans.none
 |succ n d =>
  intro v0 v3 v4;unfold fR;apply NQ<;>intro a
  ·apply NQ<;>intro e
   ·refine NS (fun b => ?_);have r:qA (jh v0 v3 v4) .normal (jh (IntKind.wrap .i64 (Int.tdiv v0 10)) v3 ((strOfNums ([cT (IntKind.wrap .i64 (0-(Int.tmod v0 10)))]))++v4)):=RP [.b true,.no,.b true,.ret [(false,[tY (cT (IntKind.wrap .i64 (0-(Int.tmod v0 10))))])],.val (.string (strOfNums ([cT (IntKind.wrap .i64 (0-(Int.tmod v0 10)))]))),.val (.string ((strOfNums ([cT (IntKind.wrap .i64 (0-(Int.tmod v0 10)))]))++v4))] (AC a<|AC e<|AD (un (IntKind.wrap .i64 (0-(Int.tmod v0 10))))<|AC (p:=(dz (((([cT (IntKind.wrap .i64 (0-(Int.tmod v0 10)))]).map etY).drop 0).take (([cT (IntKind.wrap .i64 (0-(Int.tmod v0 10)))]).map etY).length)).map strOfNums=some (strOfNums ([cT (IntKind.wrap .i64 (0-(Int.tmod v0 10)))]))) (by simp only[OX,OR];exact Fa)<|AC (gw (tab:=E.tab) (t:=9) b)<|AN);exact(d (IntKind.wrap .i64 (Int.tdiv v0 10)) v3 ((strOfNums ([cT (IntKind.wrap .i64 (0-(Int.tmod v0 10)))]))++v4)).mono fun y c=>by cases y<;>exact NO r c
   ·refine NS (fun b => ?_);have r:qA (jh v0 v3 v4) .normal (jh (IntKind.wrap .i64 (Int.tdiv v0 10)) v3 ((strOfNums ([cT (Int.tmod v0 10)]))++v4)):=RP [.b true,.no,.b false,.ret [(false,[tY (cT (Int.tmod v0 10))])],.val (.string (strOfNums ([cT (Int.tmod v0 10)]))),.val (.string ((strOfNums ([cT (Int.tmod v0 10)]))++v4))] (AC a<|AC e<|AD (un (Int.tmod v0 10))<|AC (p:=(dz (((([cT (Int.tmod v0 10)]).map etY).drop 0).take (([cT (Int.tmod v0 10)]).map etY).length)).map strOfNums=some (strOfNums ([cT (Int.tmod v0 10)]))) (by simp only[OX,OR];exact Fa)<|AC (gw (tab:=E.tab) (t:=9) b)<|AN);exact(d (IntKind.wrap .i64 (Int.tdiv v0 10)) v3 ((strOfNums ([cT (Int.tmod v0 10)]))++v4)).mono fun y c=>by cases y<;>exact NO r c
  ·exact NN (NP (show qA (jh v0 v3 v4) (.exit 0) (lm v3 v4)from RP [.b false] (AC a<|AN)) (by intro h;cases h))
noncomputable def oz (x0:Int):Option (ByteArray):=
  cond (x0==(0:Int))
   (some ((⟨#[48]⟩:ByteArray)))
   (cond (decide (x0<(0:Int)))
    ((fR 9223372036854775808 x0 true ByteArray.empty).bind fun y=>match y with
     | .x0 a=>(if(⟨#[45]⟩:ByteArray).size+a.size≤maxStr then some ((⟨#[45]⟩:ByteArray)++a)else none))
    ((fR 9223372036854775808 x0 false ByteArray.empty).bind fun y=>match y with
     | .x0 a=>(some (a))))
theorem Gm (x0:Int):Ans (oz x0) (fun r=>Does E 91 [NZ x0] [NY r]):=by
 unfold oz;apply NQ<;>intro c
 ·exact NN (DP Tryz.f91 [.b true] (AC c<|AN))
 ·apply NQ<;>intro e
  ·refine NR (fun y b => ?_);replace b:=wi 9223372036854775808 x0 true ByteArray.empty y b;cases y with
   |x0 a =>have d:=b;refine NS (fun f => ?_);exact NN (DP Tryz.f91 [.b false,.b true,.lp (.exit 0) (lm true a),.val (.string ((⟨#[45]⟩:ByteArray)++a))] (AC c<|AC e<|AL d<|AC (gw (tab:=E.tab) (t:=9) f)<|AN))
  ·refine NR (fun y b => ?_);replace b:=wi 9223372036854775808 x0 false ByteArray.empty y b;cases y with
   |x0 a =>have d:=b;exact NN (DP Tryz.f91 [.b false,.b false,.lp (.exit 0) (lm false a)] (AC c<|AC e<|AL d<|AN))
theorem zi (d:Nat)(h:d<10):strOfNums [cT (d:Int)]=ofTx [UInt8.ofNat (48+d)]:=by
 rw[DD d h];unfold strOfNums ofTx;have:(48+(d:Int)).toNat=48+d:=by omega
 simp[this]
def vf (u:Nat):List UInt8:=if u=0 then []else Lib.decDigits u
theorem Jh (u:Nat)(h:0<u):vf u=vf (u/10)++[UInt8.ofNat (48+u % 10)]:=by unfold vf;rw[Oh (by omega),Fz u h]
theorem KO (u:Nat)(h:u<10 ^ 19):(vf u).length≤19:=by
 unfold vf;split
 ·simp
 ·exact tr 18 u h
theorem Bi (b:Bool):∀(n:Nat)(v:Int)(s:List UInt8), -9223372036854775808≤v→v≤9223372036854775807→v.natAbs<10 ^ n→s.length+n≤100→∀m,n<m→fR m v b (ofTx s)=some (.x0 (ofTx (vf v.natAbs++s)))
 | 0,v,s,_,_,h,_,m,i=>by
  obtain⟨m,rfl⟩:∃k,m=k+1:=⟨m-1,by omega⟩
  have:v=0:=by simpa using h
  subst this;rfl
 |n+1,v,s,o,p,h,hs,m,i=>by
  obtain⟨m,rfl⟩:∃k,m=k+1:=⟨m-1,by omega⟩
  unfold fR;by_cases z:v=0
  ·subst z;rfl
  ·have hz:(v != 0)=true:=by simpa using z
   rw[hz,Om];have a:0<v.natAbs:=by omega
   have hd:v.natAbs % 10<10:=Nat.mod_lt _ (by omega);have f:(Int.tdiv v 10).natAbs=v.natAbs/10:=by rw[Int.natAbs_tdiv];rfl
   have g:IntKind.wrap .i64 (Int.tdiv v 10)=Int.tdiv v 10:=du _ (by omega) (by omega);have j:(Int.tmod v 10).natAbs=v.natAbs % 10:=by rw[Int.natAbs_tmod];rfl
   have d:=Bi b n (Int.tdiv v 10) ([UInt8.ofNat (48+v.natAbs % 10)]++s) (by omega) (by omega) (by rw[f];rw[Nat.pow_succ]at h;omega) (by simp;omega) m (by omega);rw[f, ←PW, ←Jh _ a]at d;have sz:∀l:List UInt8,(ofTx l).size=l.length:=fun l=>df _
   by_cases c:Int.tmod v 10<0
   ·have e:IntKind.wrap .i64 (0-Int.tmod v 10)=((v.natAbs % 10:Nat):Int):=by rw[du _ (by omega) (by omega)];omega
    rw[Of c,Om,e,zi _ hd,N5 (by rw[sz,sz];simp[maxStr];omega),g,nX];exact d
   ·have e:Int.tmod v 10=((v.natAbs % 10:Nat):Int):=by omega
    rw[Oe c,Ou,e,zi _ hd,N5 (by rw[sz,sz];simp[maxStr];omega),g,nX];exact d
theorem Jg (x:Int)(h : -9223372036854775808≤x∧x≤9223372036854775807):oz x=some (bp x):=by
 unfold oz bp Lib.itoa;by_cases z:x=0
 ·subst z;show some _=some _;rw[Oh (by omega),Lib.decDigits,dif_pos (by simp)];rfl
 ·have hz:(x==0)=false:=by simpa using z
  have hb:x.natAbs<10 ^ 19:=by have:(10:Nat) ^ 19=10000000000000000000:=rfl;omega
  have a:=fun b=>Bi b 19 x [] h.1 h.2 hb (by simp) 9223372036854775808 (by omega)
  have d:ofTx []=ByteArray.empty:=rfl;rw[d]at a;have g:=KO _ hb;rw[hz,Ou,a,a];simp only[OC,N4];have sz:∀l:List UInt8,(ofTx l).size=l.length:=fun l=>df _
  have hd:vf x.natAbs=Lib.decDigits x.natAbs:=by unfold vf;rw[Oh (by omega)]
  by_cases c:x<0
  ·have e:(⟨#[45]⟩:ByteArray)=ofTx [45]:=rfl;rw[Of c,Om,N5 c,e,N5 (by rw[sz,sz];simp[maxStr];omega),nX,hd];rfl
  ·have f:x.natAbs=x.toNat:=by omega
   rw[Oe c,Ou,Oh c,hd,f];rfl
theorem oo (x0:Int)(h : -9223372036854775808≤x0∧x0≤9223372036854775807):Does E 91 [NZ x0] [NY (bp x0)]:=by exact Gm x0 _ (Jg x0 h)
inductive wk where|ret (v2:List ByteArray) (v3:Bool)|x0 (v4:List ByteArray)
def cb (v0:ByteArray)(v4:List ByteArray)(v5 v6:Int):US:=stL 62 [(0,N1 v0),(4,.one (.s .own () 1 (v4.map etS))),(5,NZ v5),(6,NZ v6)]
def ku (a:List ByteArray)(b:Bool):US:=stL 62 [(2,.one (.s .own () 1 (a.map etS))),(3,N0 b)]
def ln (a:List ByteArray):US:=stL 62 [(4,.one (.s .own () 1 (a.map etS)))]
abbrev fS:US→Exit→US→Prop:=Round E 73 (aw Tryz.f73 0)
def EQ (v0:ByteArray)(v4:List ByteArray)(v5 v6:Int):wk→Prop| .ret a b=>Loops E 73 (aw Tryz.f73 0) (cb v0 v4 v5 v6) .ret (ku a b)| .x0 c=>Loops E 73 (aw Tryz.f73 0) (cb v0 v4 v5 v6) (.exit 0) (ln c)
noncomputable def cX (v0:ByteArray):Nat→(List ByteArray)→Int→Int→Option wk| 0,_,_,_=>none|n+1,v4,v5,v6=>cond (decide (v6≤(v0.size:Int))) (cond (decide (v6<(v0.size:Int))) (if 0≤v6∧v6<(v0.size:Int)then cond (decide ((gz v0 v6)<(32:Int))) (some (.ret ([]) false)) (cond (decide ((gz v0 v6)>(126:Int))) (some (.ret ([]) false)) (cond ((gz v0 v6) != 32) (cX v0 n v4 v5 (inc v6)) (cond (decide (v5<v6)) (if 0≤v5∧v5≤v6∧v6≤(v0.size:Int)then if(v4.length+([v0.extract v5.toNat v6.toNat]).length)*16≤140737488355328∧v4.length+([v0.extract v5.toNat v6.toNat]).length≤4611686018427387904 then cX v0 n (v4++([v0.extract v5.toNat v6.toNat])) (inc v6) (inc v6)else none else none) (cX v0 n v4 (inc v6) (inc v6)))))else none) (cond (decide (v5<v6)) (if 0≤v5∧v5≤v6∧v6≤(v0.size:Int)then if(v4.length+([v0.extract v5.toNat v6.toNat]).length)*16≤140737488355328∧v4.length+([v0.extract v5.toNat v6.toNat]).length≤4611686018427387904 then cX v0 n (v4++([v0.extract v5.toNat v6.toNat])) (inc v6) (inc v6)else none else none) (cX v0 n v4 (inc v6) (inc v6)))) (some (.x0 v4))
theorem EP (v0:ByteArray)(n:Nat):∀(v4:List ByteArray)(v5 v6:Int),Ans (cX v0 n v4 v5 v6) (EQ v0 v4 v5 v6):=by
 induction n with
 |zero=>intros;exact Ans.none
 |succ n g =>
  intro v4 v5 v6;unfold cX;apply NQ<;>intro d
  ·apply NQ<;>intro b
   ·refine NS (fun a => ?_);apply NQ<;>intro e
    ·exact NN (NP (show fS (cb v0 v4 v5 v6) .ret (ku ([]) false)from RP [.b true,.b true,.b true] (AC d<|AC b<|AC a<|AC e<|AN)) (by intro h;cases h))
    ·apply NQ<;>intro f
     ·exact NN (NP (show fS (cb v0 v4 v5 v6) .ret (ku ([]) false)from RP [.b true,.b true,.b false,.b true] (AC d<|AC b<|AC a<|AC e<|AC a<|AC f<|AN)) (by intro h;cases h))
     ·apply NQ<;>intro i
      ·have r:fS (cb v0 v4 v5 v6) .normal (cb v0 v4 v5 (inc v6)):=RP [.b true,.b true,.b false,.b false,.b true,.b true] (AC d<|AC b<|AC a<|AC e<|AC a<|AC f<|AC b<|AC a<|AC i<|AN);exact(g v4 v5 (inc v6)).mono fun y c=>by cases y<;>exact NO r c
      ·apply NQ<;>intro j
       ·refine NS (fun k => ?_);refine NS (fun l => ?_);have r:fS (cb v0 v4 v5 v6) .normal (cb v0 (v4++([v0.extract v5.toNat v6.toNat])) (inc v6) (inc v6)):=RP [.b true,.b true,.b false,.b false,.b true,.b false,.b true,.rows ((v4++([v0.extract v5.toNat v6.toNat])).map etS)] (AC d<|AC b<|AC a<|AC e<|AC a<|AC f<|AC b<|AC a<|AC i<|AC j<|AC k<|AAp etS (fun _=>rfl) l<|AN);exact(g (v4++([v0.extract v5.toNat v6.toNat])) (inc v6) (inc v6)).mono fun y c=>by cases y<;>exact NO r c
       ·have r:fS (cb v0 v4 v5 v6) .normal (cb v0 v4 (inc v6) (inc v6)):=RP [.b true,.b true,.b false,.b false,.b true,.b false,.b false] (AC d<|AC b<|AC a<|AC e<|AC a<|AC f<|AC b<|AC a<|AC i<|AC j<|AN);exact(g v4 (inc v6) (inc v6)).mono fun y c=>by cases y<;>exact NO r c
   ·apply NQ<;>intro a
    ·refine NS (fun e => ?_);refine NS (fun f => ?_);have r:fS (cb v0 v4 v5 v6) .normal (cb v0 (v4++([v0.extract v5.toNat v6.toNat])) (inc v6) (inc v6)):=RP [.b true,.b false,.b false,.b true,.rows ((v4++([v0.extract v5.toNat v6.toNat])).map etS)] (AC d<|AC b<|AC b<|AC a<|AC e<|AAp etS (fun _=>rfl) f<|AN);exact(g (v4++([v0.extract v5.toNat v6.toNat])) (inc v6) (inc v6)).mono fun y c=>by cases y<;>exact NO r c
    ·have r:fS (cb v0 v4 v5 v6) .normal (cb v0 v4 (inc v6) (inc v6)):=RP [.b true,.b false,.b false,.b false] (AC d<|AC b<|AC b<|AC a<|AN);exact(g v4 (inc v6) (inc v6)).mono fun y c=>by cases y<;>exact NO r c
  ·exact NN (NP (show fS (cb v0 v4 v5 v6) (.exit 0) (ln v4)from RP [.b false] (AC d<|AN)) (by intro h;cases h))
noncomputable def oA (x0:ByteArray):Option ((List ByteArray)×Bool):=
  cond (decide ((x0.size:Int)>(600:Int)))
   (some (([]:List ByteArray),false))
   ((cX x0 9223372036854775808 ([]) 0 0).bind fun y=>match y with
    | .ret b c=>(some (b,c))
    | .x0 a=>(cond (decide ((a.length:Int)>(10:Int)))
     (some (([]:List ByteArray),false))
     (some (a,true))))
theorem Gq (x0:ByteArray):Ans (oA x0) (fun r=>Does E 73 [N1 x0] [(false,[.s .own () 1 (r.1.map etS)]),NX r.2]):=by
 unfold oA;apply NQ<;>intro d
 ·exact NN (DP Tryz.f73 [.b true] (AC d<|AN))
 ·refine NR (fun y e => ?_);replace e:=EP x0 9223372036854775808 ([]) 0 0 y e;cases y with
  |ret b c =>have f:=e;exact NN (DP Tryz.f73 [.b false,.lp .ret (ku b c)] (AC d<|AL f<|AN))
  |x0 a =>
   have f:=e;apply NQ<;>intro g
   ·exact NN (DP Tryz.f73 [.b false,.lp (.exit 0) (ln a),N2 (a.length:Int),.b true] (AC d<|AL f<|ALn a etS<|AC g<|AN))
   ·exact NN (DP Tryz.f73 [.b false,.lp (.exit 0) (ln a),N2 (a.length:Int),.b false] (AC d<|AL f<|ALn a etS<|AC g<|AN))
inductive vy where|x2 (v5:List ByteArray)
def ja (v5 v28:List ByteArray)(a b:Int):US:=stL 45 [(5,.one (.s .own () 1 (v5.map etS))),(28,.one (.s .own () 1 (v28.map etS))),(29,NZ a),(30,NZ b)]
def k8 (a:List ByteArray):US:=stL 45 [(5,.one (.s .own () 1 (a.map etS)))]
abbrev qh:US→Exit→US→Prop:=Round E 92 (aw Tryz.f92 1)
def DR (v5 v28:List ByteArray)(a b:Int):vy→Prop| .x2 c=>Loops E 92 (aw Tryz.f92 1) (ja v5 v28 a b) (.exit 2) (k8 c)
noncomputable def e7  : List ByteArray→Nat→(List ByteArray)→Option vy|[],i,v5=>some (.x2 v5)|hd::rest,i,v5=>cond (!(hd.toList==ByteArray.empty.toList)) (if(v5.length+([hd]).length)*16≤140737488355328∧v5.length+([hd]).length≤4611686018427387904 then e7 rest (i+1) (v5++([hd]))else none) (e7 rest (i+1) v5)
theorem DO (v28:List ByteArray)(rest:List ByteArray):∀(i:Nat)(v5:List ByteArray),(v28).drop i=rest→v28.length≤9223372036854775807→Ans (e7 rest i v5) (DR v5 v28 (v28.length:Int) (i:Int)):=by
 induction rest with
 |nil =>intro i v5 a c;have hb:=bw a;unfold e7;exact NN (NP (show qh (ja v5 v28 (v28.length:Int) (i:Int)) (.exit 2) (k8 v5)from RP [.b false] (AC hb<|AN)) (by intro h;cases h))
 |cons hd rest e =>
  intro i v5 a c;have hb:=a8 a;have f:=ba a c;have b:=aG a;have g:=bc a;unfold e7;apply NQ<;>intro j
  ·refine NS (fun k => ?_);exact(e (i+1) (v5++([hd])) b c).mono fun y d=>by have r:qh (ja v5 v28 (v28.length:Int) (i:Int)) .normal (ja (v5++([hd])) v28 (v28.length:Int) (inc (i:Int))):=RP [.b true,.row (etS hd),.b true,.rows ((v5++([hd])).map etS)] (AC hb<|AG etS g<|AC j<|AAp etS (fun _=>rfl) k<|AN);rw[f]at r;cases y<;>exact NO r d
  ·exact(e (i+1) v5 b c).mono fun y d=>by have r:qh (ja v5 v28 (v28.length:Int) (i:Int)) .normal (ja v5 v28 (v28.length:Int) (inc (i:Int))):=RP [.b true,.row (etS hd),.b false] (AC hb<|AG etS g<|AC j<|AN);rw[f]at r;cases y<;>exact NO r d
inductive vx where|ret (v2:List ByteArray) (v3:Bool)|x0
def hU (v0:ByteArray)(v4:Int):US:=stL 45 [(0,N1 v0),(4,NZ v4)]
def kn (a:List ByteArray)(b:Bool):US:=stL 45 [(2,.one (.s .own () 1 (a.map etS))),(3,N0 b)]
def k7 (v0:ByteArray):US:=stL 45 [(0,N1 v0)]
abbrev nb:US→Exit→US→Prop:=Round E 92 (aw Tryz.f92 0)
def DQ (v0:ByteArray)(v4:Int):vx→Prop| .ret a b=>Loops E 92 (aw Tryz.f92 0) (hU v0 v4) .ret (kn a b)| .x0=>Loops E 92 (aw Tryz.f92 0) (hU v0 v4) (.exit 0) (k7 v0)
noncomputable def hY  : List Int→Nat→Option vx|[],i=>some (.x0)|hd::rest,i=>cond (decide (hd<(32:Int))) (some (.ret ([]) false)) (cond (decide (hd>(126:Int))) (some (.ret ([]) false)) (hY rest (i+1)))
theorem DN (v0:ByteArray)(rest:List Int):∀(i:Nat) ,(bY v0).drop i=rest→v0.size≤9223372036854775807→Ans (hY rest i) (DQ v0 (i:Int)):=by
 induction rest with
 |nil =>intro i a c;have hb:=qe a;unfold hY;exact NN (NP (show nb (hU v0 (i:Int)) (.exit 0) (k7 v0)from RP [.b false] (AC hb<|AN)) (by intro h;cases h))
 |cons hd rest g =>
  intro i a c;have hb:=oL a;have j:=oM a c;have d:=aG a;have b:=sr a;obtain rfl:=sq a;unfold hY;apply NQ<;>intro e
  ·exact NN (NP (show nb (hU v0 (i:Int)) .ret (kn ([]) false)from RP [.b true,.b true] (AC hb<|AC b<|AC e<|AN)) (by intro h;cases h))
  ·apply NQ<;>intro f
   ·exact NN (NP (show nb (hU v0 (i:Int)) .ret (kn ([]) false)from RP [.b true,.b false,.b true] (AC hb<|AC b<|AC e<|AC b<|AC f<|AN)) (by intro h;cases h))
   ·exact(g (i+1) d c).mono fun y k=>by have r:nb (hU v0 (i:Int)) .normal (hU v0 (inc (i:Int))):=RP [.b true,.b false,.b false] (AC hb<|AC b<|AC e<|AC b<|AC f<|AN);rw[j]at r;cases y<;>exact NO r k
noncomputable def ou (x0:ByteArray):Option ((List ByteArray)×Bool):=
  cond (decide ((x0.size:Int)>(600:Int)))
   (some (([]:List ByteArray),false))
   (if x0.size≤9223372036854775807 then(hY (bY x0) 0).bind fun y=>match y with
    | .ret b c=>(some (b,c))
    | .x0=>(if x0.size<4294967281 then if 1≤(⟨#[32]⟩:ByteArray).size then if(dR x0 (⟨#[32]⟩:ByteArray)).length≤9223372036854775807 then(e7 (dR x0 (⟨#[32]⟩:ByteArray)) 0 ([])).bind fun y=>match y with
     | .x2 a=>(cond (decide ((a.length:Int)>(10:Int)))
      (some (([]:List ByteArray),false))
      (some (a,true)))else none else none else none)else none)
theorem FW (x0:ByteArray):Ans (ou x0) (fun r=>Does E 92 [N1 x0] [(false,[.s .own () 1 (r.1.map etS)]),NX r.2]):=by
 unfold ou;apply NQ<;>intro e
 ·exact NN (DP Tryz.f92 [.b true] (AC e<|AN))
 ·refine NS (fun g => ?_);refine NR (fun y b => ?_);replace b:=DN x0 (bY x0) 0 rfl g y b;cases y with
  |ret c d =>have f:=b;exact NN (DP Tryz.f92 [.b false,.lp .ret (kn c d)] (AC e<|AL f<|AN))
  |x0 =>
   have f:=b;refine NS (fun i => ?_);refine NS (fun j => ?_);refine NS (fun h => ?_);refine NR (fun y b => ?_);replace b:=DO (dR x0 (⟨#[32]⟩:ByteArray)) (dR x0 (⟨#[32]⟩:ByteArray)) 0 ([]) rfl h y b;cases y with
   |x2 a =>
    have k:=b;apply NQ<;>intro l
    ·exact NN (DP Tryz.f92 [.b false,.lp (.exit 0) (k7 x0),.ret [(false,[.s .own () 1 ((dR x0 (⟨#[32]⟩:ByteArray)).map etS)])],N2 ((dR x0 (⟨#[32]⟩:ByteArray)).length:Int),.lp (.exit 2) (k8 a),N2 (a.length:Int),.b true] (AC e<|AL f<|AD (kk x0 (⟨#[32]⟩:ByteArray) i j)<|ALn (dR x0 (⟨#[32]⟩:ByteArray)) etS<|AL k<|ALn a etS<|AC l<|AN))
    ·exact NN (DP Tryz.f92 [.b false,.lp (.exit 0) (k7 x0),.ret [(false,[.s .own () 1 ((dR x0 (⟨#[32]⟩:ByteArray)).map etS)])],N2 ((dR x0 (⟨#[32]⟩:ByteArray)).length:Int),.lp (.exit 2) (k8 a),N2 (a.length:Int),.b false] (AC e<|AL f<|AD (kk x0 (⟨#[32]⟩:ByteArray) i j)<|ALn (dR x0 (⟨#[32]⟩:ByteArray)) etS<|AL k<|ALn a etS<|AC l<|AN))
def okB (b:UInt8):Bool:=decide (32≤b.toNat)&&decide (b.toNat≤126)
theorem J1 {b:UInt8}(h:b.toNat<32):okB b=false:=by unfold okB;rw[Oe (by omega)];rfl
theorem JZ {b:UInt8}(h:126<b.toNat):okB b=false:=by unfold okB;rw[Oe (by omega:¬b.toNat≤126),P1]
theorem J0 {b:UInt8}(h:¬b.toNat<32)(a:¬ 126<b.toNat):okB b=true:=by unfold okB;rw[Of (by omega),Of (by omega)];rfl
def aF (x:ByteArray):Bool := !(x.toList==ByteArray.empty.toList)
noncomputable def aM (s:ByteArray):List ByteArray×Bool :=if 600<s.size then([],false)else if(tx s).all okB=true then(if 10<(((bT 32 (tx s)).map ofTx).filter aF).length then([],false)else(((bT 32 (tx s)).map ofTx).filter aF,true))else([],false)
theorem DF (l:List UInt8):aF (ofTx l)= !l.isEmpty:=by unfold aF;rw[jQ];have:tx ByteArray.empty=[]:=rfl;rw[this,s7];cases l<;>rfl
theorem zy (s:ByteArray)(c:UInt8):dR s ⟨#[c]⟩=(bT c (tx s)).map ofTx:=GF s c
theorem pP (s:ByteArray):bY s=(tx s).map fun b=>(b.toNat:Int):=rfl
theorem Di {s:ByteArray}{i:Nat}{b:UInt8}(h:(tx s)[i]?=some b):gz s (i:Int)=(b.toNat:Int):=by
 have hi:i<s.size:=by
  rw[df];rcases Od i (tx s).length with g|g
  ·exact g
  ·rw[Ob g]at h;cases h
 have:=rX s i hi;rw[pP,Ok,h]at this;exact(P4 this).symm
theorem J6:∀(l:List UInt8)(i:Nat),hY (l.map fun b=>(b.toNat:Int)) i=some (if l.all okB=true then .x0 else .ret [] false)
 |[],i=>rfl
 |b::l,i=>by
  rw[Oq];unfold hY;rw[J6 l (i+1),PH];by_cases h:b.toNat<32
  ·rw[Of (by omega),J1 h];rfl
  ·rw[Oe (by omega),Ou];by_cases a:126<b.toNat
   ·rw[Of (by omega),JZ a];rfl
   ·rw[Oe (by omega),J0 h a];rfl
theorem Ey:∀(l:List ByteArray)(i:Nat)(v:List ByteArray),v.length+l.length≤4000000→e7 l i v=some (.x2 (v++l.filter aF))
 |[],i,v,_=>by unfold e7;simp
 |x::l,i,v,h=>by
  simp only[OI]at h;unfold e7;have e:(!(x.toList==ByteArray.empty.toList))=aF x:=rfl;rw[e];cases q:aF x with
  |true =>rw[Om,N5 (by simp;omega),Ey l (i+1) _ (by simp;omega),Pu,q];simp
  |false =>rw[Ou,Ey l (i+1) v (by omega),Pu,q];simp
theorem J7 (s:ByteArray):ou s=some (aM s):=by
 unfold ou aM;by_cases h:600<s.size
 ·rw[Of (by omega),N5 h];rfl
 ·have a:=xN 32 (tx s);rw[←df]at a;rw[Oe (by omega),Oh h,Ou,N5 (by omega),pP,J6];by_cases q:(tx s).all okB=true
  ·rw[N5 q,N5 q,N4];simp only;rw[N5 (by omega),N5 (by decide),zy,N5 (by simp;omega),Ey _ _ _ (by simp;omega),N4];simp only[OE];by_cases r:10<(((bT 32 (tx s)).map ofTx).filter aF).length
   ·rw[Of (by omega),N5 r];rfl
   ·rw[Oe (by omega),Oh r];rfl
  ·rw[Oh q,Oh q];rfl
theorem DG {l:List UInt8}{i:Nat}(h:i<l.length):∃b r,l.drop i=b::r∧l[i]?=some b∧l.drop (i+1)=r:=by refine⟨l[i],l.drop (i+1),PB h,Oa h,rfl⟩
theorem J9 (s:ByteArray)(hs:s.size≤2000000):∀(m i a:Nat)(v:List ByteArray)(n:Nat),i+m=(tx s).length→m+1<n→a≤i→v.length+m≤2000000 →
  cX s n v (a:Int) (i:Int)=some (if((tx s).drop i).all okB=true then .x0 (v++((ik (seg (tx s) a i) (bT 32 ((tx s).drop i))).map ofTx).filter aF)else .ret [] false)
 |m,i,a,v,n,hi,A,f,hv=>by
  obtain⟨n,rfl⟩:∃k,n=k+2:=⟨n-2,by omega⟩
  have u:=df s;unfold cX;rw[Of (by omega:(i:Int)≤(s.size:Int)),Om];have c:inc (i:Int)=((i+1:Nat):Int):=by rw[eJ _ (by omega) (by omega)];omega
  cases m with
  |zero =>
   have hd:(tx s).drop i=[]:=OV (by omega);have stop:∀w b,cX s (n+1) w b ((i+1:Nat):Int)=some (.x0 w):=fun w b=>by unfold cX;rw[Oe (by omega)];rfl
   have hc:ik (seg (tx s) a i) (bT 32 ([]:List UInt8))=[seg (tx s) a i]:=by simp[bT,ik]
   have hf:([seg (tx s) a i].map ofTx).filter aF=if a=i then []else [s.extract a i]:=by
    rw[Oq,OL,Pu,DF,Hd f (by omega),lP];by_cases q:a=i
    ·rw[N5 q,Of q];rfl
    ·rw[Oh q,Oe q];rfl
   rw[Oe (by omega:¬(i:Int)<(s.size:Int)),Ou,c,hd,hc,hf,List.all_nil,N5 rfl];by_cases q:a=i
   ·rw[Oe (by omega),Ou,stop,N5 q,OC]
   ·rw[Of (by omega),Om,N5 (by omega),N5 (by simp;omega),stop,Oh q];rfl
  |succ m =>
   obtain⟨b,r,hd,j,x⟩:=DG (l:=tx s) (i:=i) (by omega);have hb:=Di j;have d:=fun o p (y:o≤i+1) (z:p.length+m≤2000000)=>J9 s hs m (i+1) o p (n+1) (by omega) (by omega) y z
   rw[x]at d;rw[Of (by omega:(i:Int)<(s.size:Int)),Om,N5 (by omega),hb,c,hd,PH];have bl:=b.toNat_lt;by_cases h:b.toNat<32
   ·rw[Of (by omega:((b.toNat:Int)<32)),Om,J1 h];rfl
   ·rw[Oe (by omega:¬((b.toNat:Int)<32)),Ou];by_cases t:126<b.toNat
    ·rw[Of (by omega:((b.toNat:Int)>126)),Om,JZ t];rfl
    ·rw[Oe (by omega:¬((b.toNat:Int)>126)),Ou,J0 h t,OG];by_cases q:b=32
     ·subst q;have e:(((32:UInt8).toNat:Int) != 32)=false:=by decide
      rw[e,Ou,qb];have g:ik (seg (tx s) a i) ([]::bT 32 r)=seg (tx s) a i::bT 32 r:=by simp[ik]
      rw[g,Oq,Pu,DF,Hd f (by omega)];have hz:ik (seg (tx s) (i+1) (i+1)) (bT 32 r)=bT 32 r:=by rw[qF];exact tD _ (ip _ _)
      by_cases q:a=i
      ·have:=d (i+1) v (by omega) (by omega);rw[hz]at this;rw[Oe (by omega),Ou,this,Of q];rfl
      ·have:=d (i+1) (v++[s.extract a i]) (by omega) (by simp;omega);rw[hz]at this;rw[Of (by omega),Om,N5 (by omega),N5 (by simp;omega)];rw[show((a:Int).toNat)=a by omega,show((i:Int).toNat)=i by omega,this,Oe q,lP];simp
     ·have e:((b.toNat:Int) != 32)=true:=by rw[Q5];intro h;exact q (Q3.1 (by show b.toNat=32;omega))
      rw[e,Om,d a v (by omega) (by omega),mE q,Bs _ _ _ (ip _ _), ←E3 f j]
theorem J8 (s:ByteArray):oA s=some (aM s):=by
 unfold oA aM;by_cases h:600<s.size
 ·rw[Of (by omega),N5 h];rfl
 ·have hz:ik (seg (tx s) 0 0) (bT 32 (tx s))=bT 32 (tx s):=by rw[qF];exact tD _ (ip _ _)
  have e:=J9 s (by omega) (tx s).length 0 0 [] 9223372036854775808 (by omega) (by rw[←df];omega) (by omega) (by rw[←df];simp;omega);rw[OR,hz,OE]at e;rw[Oe (by omega),Oh h,Ou];refine(Ov (Option.bind · _) e).trans ?_;by_cases q:(tx s).all okB=true
  ·rw[N5 q,N5 q,N4];simp only;by_cases r:10<(((bT 32 (tx s)).map ofTx).filter aF).length
   ·rw[Of (by omega),N5 r];rfl
   ·rw[Oe (by omega),Oh r];rfl
  ·rw[Oh q,Oh q];rfl
theorem rN {s p:ByteArray}(h:p∈(aM s).1):p.size≤600:=by
 unfold aM at h;split at h
 ·cases h
 ·rename_i b;split at h
  ·split at h
   ·cases h
   ·obtain⟨x,a,rfl⟩:=Oo.1 (PN.1 h).1;have:=xO _ _ x a;rw[oP];rw[←df]at this;omega
  ·cases h
theorem Ft (x0:ByteArray):Does E 73 [N1 x0] [(false,[.s .own () 1 (((aM x0).1).map etS)]),NX ((aM x0).2)]:=by exact Gq x0 _ (J8 x0)
theorem lY (x0:ByteArray){b:Bool}(a:(aM x0).2=b):Does E 73 [N1 x0] [(false,[.s .own () 1 (((aM x0).1).map etS)]),NX b]:=by rw[←a];exact Ft x0
theorem Fm (x0:ByteArray):Does E 92 [N1 x0] [(false,[.s .own () 1 (((aM x0).1).map etS)]),NX ((aM x0).2)]:=by exact FW x0 _ (J7 x0)
theorem lX (x0:ByteArray){b:Bool}(a:(aM x0).2=b):Does E 92 [N1 x0] [(false,[.s .own () 1 (((aM x0).1).map etS)]),NX b]:=by rw[←a];exact Fm x0
inductive qB where|ret (v2:Int) (v3:Bool)|x0 (v4:Int)
def eD (v0:ByteArray)(v4 v5:Int):US:=stL 42 [(0,N1 v0),(4,NZ v4),(5,NZ v5)]
def ij (a:Int)(b:Bool):US:=stL 42 [(2,NZ a),(3,N0 b)]
def fT (v0:ByteArray)(a:Int):US:=stL 42 [(0,N1 v0),(4,NZ a)]
abbrev jJ:US→Exit→US→Prop:=Round E 101 (aw Tryz.f101 0)
def yd (v0:ByteArray)(v4 v5:Int):qB→Prop| .ret a b=>Loops E 101 (aw Tryz.f101 0) (eD v0 v4 v5) .ret (ij a b)| .x0 c=>Loops E 101 (aw Tryz.f101 0) (eD v0 v4 v5) (.exit 0) (fT v0 c)
noncomputable def eE (v0:ByteArray):List Int→Nat→Int→Option qB|[],i,v4=>some (.x0 v4)|hd::rest,i,v4=>cond (decide (hd<(48:Int))) (some (.ret 0 false)) (cond (decide (hd>(57:Int))) (some (.ret 0 false)) (eE v0 rest (i+1) (IntKind.wrap .i64 ((IntKind.wrap .i64 ((IntKind.wrap .i64 ((10:Int)*v4))+(IntKind.wrap .i64 hd)))-(48:Int)))))
theorem yc (v0:ByteArray)(rest:List Int):∀(i:Nat)(v4:Int),(bY v0).drop i=rest→v0.size≤9223372036854775807→Ans (eE v0 rest i v4) (yd v0 v4 (i:Int)):=by
 induction rest with
 |nil =>intro i v4 a c;have hb:=qe a;unfold eE;exact NN (NP (show jJ (eD v0 v4 (i:Int)) (.exit 0) (fT v0 v4)from RP [.b false] (AC hb<|AN)) (by intro h;cases h))
 |cons hd rest g =>
  intro i v4 a c;have hb:=oL a;have j:=oM a c;have d:=aG a;have b:=sr a;obtain rfl:=sq a;unfold eE;apply NQ<;>intro e
  ·exact NN (NP (show jJ (eD v0 v4 (i:Int)) .ret (ij 0 false)from RP [.b true,.b true] (AC hb<|AC b<|AC e<|AN)) (by intro h;cases h))
  ·apply NQ<;>intro f
   ·exact NN (NP (show jJ (eD v0 v4 (i:Int)) .ret (ij 0 false)from RP [.b true,.b false,.b true] (AC hb<|AC b<|AC e<|AC b<|AC f<|AN)) (by intro h;cases h))
   ·exact(g (i+1) (IntKind.wrap .i64 ((IntKind.wrap .i64 ((IntKind.wrap .i64 ((10:Int)*v4))+(IntKind.wrap .i64 (gz v0 (i:Int)))))-(48:Int))) d c).mono fun y k=>by have r:jJ (eD v0 v4 (i:Int)) .normal (eD v0 (IntKind.wrap .i64 ((IntKind.wrap .i64 ((IntKind.wrap .i64 ((10:Int)*v4))+(IntKind.wrap .i64 (gz v0 (i:Int)))))-(48:Int))) (inc (i:Int))):=RP [.b true,.b false,.b false] (AC hb<|AC b<|AC e<|AC b<|AC f<|AC b<|AN);rw[j]at r;cases y<;>exact NO r k
noncomputable def kv (x0:ByteArray):Option (Int×Bool):=
  cond (decide ((x0.size:Int)>(10:Int)))
   (some (0,false))
   (if x0.size≤9223372036854775807 then(eE x0 (bY x0) 0 0).bind fun y=>match y with
    | .ret b c=>(some (b,c))
    | .x0 a=>(cond (decide (a>(1000000000:Int)))
     (some (0,false))
     (if -9223372036854775808≤a∧a≤9223372036854775807 then cond (!((bp a).toList==x0.toList))
      (some (0,false))
      (some (a,true))else none))else none)
theorem zu (x0:ByteArray):Ans (kv x0) (fun r=>Does E 101 [N1 x0] [NW r.1,NX r.2]):=by
 unfold kv;apply NQ<;>intro b
 ·exact NN (DP Tryz.f101 [.b true] (AC b<|AN))
 ·refine NS (fun g => ?_);refine NR (fun y f => ?_);replace f:=yc x0 (bY x0) 0 0 rfl g y f;cases y with
  |ret c d =>have e:=f;exact NN (DP Tryz.f101 [.b false,.lp .ret (ij c d)] (AC b<|AL e<|AN))
  |x0 a =>
   have e:=f;apply NQ<;>intro h
   ·exact NN (DP Tryz.f101 [.b false,.lp (.exit 0) (fT x0 a),.b true] (AC b<|AL e<|AC h<|AN))
   ·refine NS (fun i => ?_);apply NQ<;>intro j
    ·exact NN (DP Tryz.f101 [.b false,.lp (.exit 0) (fT x0 a),.b false,.ret [NY (bp a)],.b true] (AC b<|AL e<|AC h<|AD (oo a i)<|AC j<|AN))
    ·exact NN (DP Tryz.f101 [.b false,.lp (.exit 0) (fT x0 a),.b false,.ret [NY (bp a)],.b false] (AC b<|AL e<|AC h<|AD (oo a i)<|AC j<|AN))
inductive qi where|ret (v2:Int) (v3:Bool)|x0 (v4:Int)
def ey (v0:ByteArray)(v4 v5:Int):US:=stL 47 [(0,N1 v0),(4,NZ v4),(5,NZ v5)]
def ie (a:Int)(b:Bool):US:=stL 47 [(2,NZ a),(3,N0 b)]
def fN (v0:ByteArray)(a:Int):US:=stL 47 [(0,N1 v0),(4,NZ a)]
abbrev jA:US→Exit→US→Prop:=Round E 116 (aw Tryz.f116 0)
def xW (v0:ByteArray)(v4 v5:Int):qi→Prop| .ret a b=>Loops E 116 (aw Tryz.f116 0) (ey v0 v4 v5) .ret (ie a b)| .x0 c=>Loops E 116 (aw Tryz.f116 0) (ey v0 v4 v5) (.exit 0) (fN v0 c)
noncomputable def ez (v0:ByteArray):List Int→Nat→Int→Option qi|[],i,v4=>some (.x0 v4)|hd::rest,i,v4=>cond (decide (hd<(48:Int))) (some (.ret 0 false)) (cond (decide (hd>(57:Int))) (some (.ret 0 false)) (ez v0 rest (i+1) (IntKind.wrap .i64 ((IntKind.wrap .i64 (v4*(10:Int)))+(IntKind.wrap .i64 (IntKind.wrap .u8 (hd-(48:Int))))))))
theorem xV (v0:ByteArray)(rest:List Int):∀(i:Nat)(v4:Int),(bY v0).drop i=rest→v0.size≤9223372036854775807→Ans (ez v0 rest i v4) (xW v0 v4 (i:Int)):=by
 induction rest with
 |nil =>intro i v4 a c;have hb:=qe a;unfold ez;exact NN (NP (show jA (ey v0 v4 (i:Int)) (.exit 0) (fN v0 v4)from RP [.b false] (AC hb<|AN)) (by intro h;cases h))
 |cons hd rest g =>
  intro i v4 a c;have hb:=oL a;have j:=oM a c;have d:=aG a;have b:=sr a;obtain rfl:=sq a;unfold ez;apply NQ<;>intro e
  ·exact NN (NP (show jA (ey v0 v4 (i:Int)) .ret (ie 0 false)from RP [.b true,.b true] (AC hb<|AC b<|AC e<|AN)) (by intro h;cases h))
  ·apply NQ<;>intro f
   ·exact NN (NP (show jA (ey v0 v4 (i:Int)) .ret (ie 0 false)from RP [.b true,.b false,.b true] (AC hb<|AC b<|AC e<|AC b<|AC f<|AN)) (by intro h;cases h))
   ·exact(g (i+1) (IntKind.wrap .i64 ((IntKind.wrap .i64 (v4*(10:Int)))+(IntKind.wrap .i64 (IntKind.wrap .u8 ((gz v0 (i:Int))-(48:Int)))))) d c).mono fun y k=>by have r:jA (ey v0 v4 (i:Int)) .normal (ey v0 (IntKind.wrap .i64 ((IntKind.wrap .i64 (v4*(10:Int)))+(IntKind.wrap .i64 (IntKind.wrap .u8 ((gz v0 (i:Int))-(48:Int)))))) (inc (i:Int))):=RP [.b true,.b false,.b false] (AC hb<|AC b<|AC e<|AC b<|AC f<|AC b<|AN);rw[j]at r;cases y<;>exact NO r k
noncomputable def ko (x0:ByteArray):Option (Int×Bool):=
  cond ((x0.size:Int)==(0:Int))
   (some (0,false))
   (cond (decide ((x0.size:Int)>(10:Int)))
    (some (0,false))
    (if x0.size≤9223372036854775807 then(ez x0 (bY x0) 0 0).bind fun y=>match y with
     | .ret b c=>(some (b,c))
     | .x0 a=>(cond (decide (a>(1000000000:Int)))
      (some (0,false))
      (if -9223372036854775808≤a∧a≤9223372036854775807 then cond (!((bp a).toList==x0.toList))
       (some (0,false))
       (some (a,true))else none))else none))
theorem yW (x0:ByteArray):Ans (ko x0) (fun r=>Does E 116 [N1 x0] [NW r.1,NX r.2]):=by
 unfold ko;apply NQ<;>intro b
 ·exact NN (DP Tryz.f116 [.b true] (AC b<|AN))
 ·apply NQ<;>intro c
  ·exact NN (DP Tryz.f116 [.b false,.b true] (AC b<|AC c<|AN))
  ·refine NS (fun h => ?_);refine NR (fun y g => ?_);replace g:=xV x0 (bY x0) 0 0 rfl h y g;cases y with
   |ret d e =>have f:=g;exact NN (DP Tryz.f116 [.b false,.b false,.lp .ret (ie d e)] (AC b<|AC c<|AL f<|AN))
   |x0 a =>
    have f:=g;apply NQ<;>intro i
    ·exact NN (DP Tryz.f116 [.b false,.b false,.lp (.exit 0) (fN x0 a),.b true] (AC b<|AC c<|AL f<|AC i<|AN))
    ·refine NS (fun j => ?_);apply NQ<;>intro k
     ·exact NN (DP Tryz.f116 [.b false,.b false,.lp (.exit 0) (fN x0 a),.b false,.ret [NY (bp a)],.b true] (AC b<|AC c<|AL f<|AC i<|AD (rq a j)<|AC k<|AN))
     ·exact NN (DP Tryz.f116 [.b false,.b false,.lp (.exit 0) (fN x0 a),.b false,.ret [NY (bp a)],.b false] (AC b<|AC c<|AL f<|AC i<|AD (rq a j)<|AC k<|AN))
def lj:List UInt8→Int→Option Int|[],v=>some v|b::l,v=>if 48≤b.toNat∧b.toNat≤57 then lj l (10*v+((b.toNat:Int)-48))else none
noncomputable def aa (s:ByteArray):Int×Bool :=
 if 10<s.size then(0,false)else match lj (tx s) 0 with
  |none=>(0,false)
  |some n=>if 1000000000<n then(0,false)else if tx (bp n)=tx s then(n,true)else(0,false)
theorem xt:∀(l:List UInt8)(v:Int)(k:Nat)(r:Int),0≤v→v<10 ^ k→lj l v=some r→0≤r∧r<10 ^ (k+l.length)
 |[],v,k,r,a,c,h=>by cases h;exact⟨a,c⟩
 |b::l,v,k,r,a,c,h=>by
  unfold lj at h;split at h
  ·rename_i hb;have:=xt l (10*v+((b.toNat:Int)-48)) (k+1) r (by omega) (by rw[Int.pow_succ];omega) h;rw[OI,show k+(l.length+1)=k+1+l.length by omega];exact this
  ·cases h
theorem EE {k n:Nat}(h:k≤n):(10:Int) ^ k≤10 ^ n:=by
 have:=Nat.pow_le_pow_right (n:=10) (by omega) h;have e:∀m:Nat,10 ^ m=((10 ^ m:Nat):Int):=fun m=>by simp
 rw[e,e];omega
theorem EG (s:ByteArray):∀(l:List UInt8)(i:Nat)(v:Int)(k:Nat),0≤v→v<10 ^ k→k+l.length≤10 →
  eE s (l.map fun b=>(b.toNat:Int)) i v=some (match lj l v with|some r => .x0 r|none => .ret 0 false) ∧
  ez s (l.map fun b=>(b.toNat:Int)) i v=some (match lj l v with|some r => .x0 r|none => .ret 0 false)
 |[],i,v,k,_,_,_=>⟨rfl,rfl⟩
 |b::l,i,v,k,f,g,a=>by
  have j:=EE (show k≤10 by omega);have c:(10:Int) ^ 10=10000000000:=by decide
  rw[Oq];unfold eE ez lj;have bl:=b.toNat_lt;by_cases h:b.toNat<48
  ·rw[Of (by omega:((b.toNat:Int)<48)),Oh (by omega)];exact⟨rfl,rfl⟩
  ·rw[Oe (by omega:¬((b.toNat:Int)<48)),Ou,Ou];by_cases m:57<b.toNat
   ·rw[Of (by omega:((b.toNat:Int)>57)),Oh (by omega)];exact⟨rfl,rfl⟩
   ·rw[Oe (by omega:¬((b.toNat:Int)>57)),N5 (by omega),Ou,Ou];have d:IntKind.wrap .i64 (IntKind.wrap .i64 (IntKind.wrap .i64 (10*v)+IntKind.wrap .i64 (b.toNat:Int))-48)=10*v+((b.toNat:Int)-48):=by rw[du (10*v) (by omega) (by omega),du (b.toNat:Int) (by omega) (by omega),du (10*v+(b.toNat:Int)) (by omega) (by omega),du _ (by omega) (by omega)];omega
    have e:IntKind.wrap .i64 (IntKind.wrap .i64 (v*10)+IntKind.wrap .i64 (IntKind.wrap .u8 ((b.toNat:Int)-48)))=10*v+((b.toNat:Int)-48):=by rw[LG (by omega) (by omega),du (v*10) (by omega) (by omega),du ((b.toNat:Int)-48) (by omega) (by omega),du _ (by omega) (by omega)];omega
    rw[d,e];simp only[OI]at a;exact EG s l (i+1) _ (k+1) (by omega) (by rw[Int.pow_succ];omega) (by omega)
theorem rO {s:ByteArray}(h:¬ 10<s.size){r:Int}(a:lj (tx s) 0=some r):0≤r∧r<10000000000:=by
 have:=xt (tx s) 0 0 r (by omega) (by decide) a;have c:=EE (show 0+(tx s).length≤10 by rw[←df];omega);have b:(10:Int) ^ 10=10000000000:=by decide
 omega
theorem Kf (s:ByteArray):kv s=some (aa s):=by
 unfold kv aa;by_cases h:10<s.size
 ·rw[Of (by omega),N5 h];rfl
 ·obtain⟨e, -⟩:=EG s (tx s) 0 0 0 (by omega) (by decide) (by rw[←df];omega);rw[Oe (by omega),Oh h,Ou,N5 (by omega),pP,e];cases q:lj (tx s) 0 with
  |none=>rfl
  |some n =>
   obtain⟨a,b⟩:=rO h q;simp only[N4];by_cases z:1000000000<n
   ·rw[Of (by omega),N5 z];rfl
   ·rw[Oe (by omega),Oh z,Ou,N5 (by omega),jQ];by_cases y:tx (bp n)=tx s
    ·rw[Of y,N5 y];rfl
    ·rw[Oe y,Oh y];rfl
theorem Ke (s:ByteArray):ko s=some (aa s):=by
 unfold ko aa;by_cases hz:s.size=0
 ·have b:tx s=[]:=List.eq_nil_of_length_eq_zero (by rw[←df];exact hz);have a:((s.size:Int)==0)=true:=by rw[hz];rfl
  rw[a,Om,Oh (by omega),b];unfold lj;simp only;have:¬tx (bp 0)=[]:=by unfold bp Lib.itoa;rw[Oh (by omega),Lib.decDigits,dif_pos (by simp)];simp[tx]
  rw[Oh (by omega),Oh this]
 have a:((s.size:Int)==0)=false:=by rw[O3];omega
 rw[a,Ou];by_cases h:10<s.size
 ·rw[Of (by omega),N5 h];rfl
 ·obtain⟨-,e⟩:=EG s (tx s) 0 0 0 (by omega) (by decide) (by rw[←df];omega);rw[Oe (by omega),Oh h,Ou,N5 (by omega),pP,e];cases q:lj (tx s) 0 with
  |none=>rfl
  |some n =>
   obtain⟨c,d⟩:=rO h q;simp only[N4];by_cases z:1000000000<n
   ·rw[Of (by omega),N5 z];rfl
   ·rw[Oe (by omega),Oh z,Ou,N5 (by omega),jQ];by_cases y:tx (bp n)=tx s
    ·rw[Of y,N5 y];rfl
    ·rw[Oe y,Oh y];rfl
theorem Iv (s:ByteArray):0≤(aa s).1∧(aa s).1≤1000000000:=by
 unfold aa;split
 ·exact⟨Pc _,by decide⟩
 ·rename_i h;split
  ·exact⟨Pc _,by decide⟩
  ·rename_i n q;obtain⟨a,b⟩:=rO h q;split
   ·exact⟨Pc _,by decide⟩
   ·split
    ·exact⟨a,by show n≤_;omega⟩
    ·exact⟨Pc _,by decide⟩
theorem BD:∀{l:List UInt8}{b:UInt8}(v:Int),b∈l→¬(48≤b.toNat∧b.toNat≤57)→lj l v=none
 |x::l,b,v,h,hb=>by
  unfold lj;rcases OB.1 h with rfl|h
  ·rw[Oh hb]
  ·split
   ·exact BD _ h hb
   ·rfl
theorem xr {s:ByteArray}{b:UInt8}(h:b∈tx s)(hb:¬(48≤b.toNat∧b.toNat≤57)):aa s=(0,false):=by unfold aa;rw[BD 0 h hb];split<;>rfl
theorem mU (x0:ByteArray):Does E 101 [N1 x0] [NW ((aa x0).1),NX ((aa x0).2)]:=by exact zu x0 _ (Kf x0)
theorem ax (x0:ByteArray){b:Bool}(a:(aa x0).2=b):Does E 101 [N1 x0] [NW ((aa x0).1),NX b]:=by rw[←a];exact mU x0
theorem qN (x0:ByteArray):Does E 116 [N1 x0] [NW ((aa x0).1),NX ((aa x0).2)]:=by exact yW x0 _ (Ke x0)
theorem bo (x0:ByteArray){b:Bool}(a:(aa x0).2=b):Does E 116 [N1 x0] [NW ((aa x0).1),NX b]:=by rw[←a];exact qN x0
inductive uH where|x0 (v5:List ByteArray)
def fq (v0:ByteArray)(v1:Int)(v5:List ByteArray)(v6 v7:Int):US:=stL 36 [(0,N1 v0),(1,.one (tY v1)),(5,.one (.s .own () 1 (v5.map etS))),(6,NZ v6),(7,NZ v7)]
def nC (a:List ByteArray):US:=stL 36 [(5,.one (.s .own () 1 (a.map etS)))]
abbrev mf:US→Exit→US→Prop:=Round E 88 (aw Tryz.f88 0)
def Ct (v0:ByteArray)(v1:Int)(v5:List ByteArray)(v6 v7:Int):uH→Prop| .x0 a=>Loops E 88 (aw Tryz.f88 0) (fq v0 v1 v5 v6 v7) (.exit 0) (nC a)
noncomputable def dG (v0:ByteArray)(v1:Int):Nat→(List ByteArray)→Int→Int→Option uH| 0,_,_,_=>none|n+1,v5,v6,v7=>cond (decide (v7≤(v0.size:Int))) (cond (v7==(v0.size:Int)) (if 0≤v6∧v6≤v7∧v7≤(v0.size:Int)then if(v5.length+([v0.extract v6.toNat v7.toNat]).length)*16≤140737488355328∧v5.length+([v0.extract v6.toNat v7.toNat]).length≤4611686018427387904 then dG v0 v1 n (v5++([v0.extract v6.toNat v7.toNat])) (inc v7) (inc v7)else none else none) (if 0≤v7∧v7<(v0.size:Int)then cond ((gz v0 v7)==v1) (if 0≤v6∧v6≤v7∧v7≤(v0.size:Int)then if(v5.length+([v0.extract v6.toNat v7.toNat]).length)*16≤140737488355328∧v5.length+([v0.extract v6.toNat v7.toNat]).length≤4611686018427387904 then dG v0 v1 n (v5++([v0.extract v6.toNat v7.toNat])) (inc v7) (inc v7)else none else none) (dG v0 v1 n v5 v6 (inc v7))else none)) (some (.x0 v5))
theorem Cs (v0:ByteArray)(v1:Int)(n:Nat):∀(v5:List ByteArray)(v6 v7:Int),Ans (dG v0 v1 n v5 v6 v7) (Ct v0 v1 v5 v6 v7):=by
 induction n with
 |zero=>intros;exact Ans.none
 |succ n e =>
  intro v5 v6 v7;unfold dG;apply NQ<;>intro b
  ·apply NQ<;>intro f
   ·refine NS (fun c => ?_);refine NS (fun d => ?_);have r:mf (fq v0 v1 v5 v6 v7) .normal (fq v0 v1 (v5++([v0.extract v6.toNat v7.toNat])) (inc v7) (inc v7)):=RP [.b true,.b true,.rows ((v5++([v0.extract v6.toNat v7.toNat])).map etS)] (AC b<|AC f<|AC c<|AAp etS (fun _=>rfl) d<|AN);exact(e (v5++([v0.extract v6.toNat v7.toNat])) (inc v7) (inc v7)).mono fun y a=>by cases y<;>exact NO r a
   ·refine NS (fun c => ?_);apply NQ<;>intro d
    ·refine NS (fun g => ?_);refine NS (fun i => ?_);have r:mf (fq v0 v1 v5 v6 v7) .normal (fq v0 v1 (v5++([v0.extract v6.toNat v7.toNat])) (inc v7) (inc v7)):=RP [.b true,.b false,.b true,.rows ((v5++([v0.extract v6.toNat v7.toNat])).map etS)] (AC b<|AC f<|AC c<|AC d<|AC g<|AAp etS (fun _=>rfl) i<|AN);exact(e (v5++([v0.extract v6.toNat v7.toNat])) (inc v7) (inc v7)).mono fun y a=>by cases y<;>exact NO r a
    ·have r:mf (fq v0 v1 v5 v6 v7) .normal (fq v0 v1 v5 v6 (inc v7)):=RP [.b true,.b false,.b false] (AC b<|AC f<|AC c<|AC d<|AN);exact(e v5 v6 (inc v7)).mono fun y a=>by cases y<;>exact NO r a
  ·exact NN (NP (show mf (fq v0 v1 v5 v6 v7) (.exit 0) (nC v5)from RP [.b false] (AC b<|AN)) (by intro h;cases h))
noncomputable def nD (x0:ByteArray)(b:Int):Option ((List ByteArray)):=
  (dG x0 b 9223372036854775808 ([]) 0 0).bind fun y=>match y with
   | .x0 a=>(some (a))
theorem EZ (x0:ByteArray)(b:Int):Ans (nD x0 b) (fun r=>Does E 88 [N1 x0,.one (tY b)] [(false,[.s .own () 1 (r.map etS)])]):=by
 unfold nD;refine NR (fun y c => ?_);replace c:=Cs x0 b 9223372036854775808 ([]) 0 0 y c;cases y with
 |x0 a =>have d:=c;exact NN (DP Tryz.f88 [.lp (.exit 0) (nC a)] (AL d<|AN))
noncomputable def ak (s:ByteArray)(c:Int):List ByteArray:=(bT (UInt8.ofNat c.toNat) (tx s)).map ofTx
theorem Kr (s:ByteArray)(c:UInt8)(hs:s.size≤2000000):∀(m i a:Nat)(v:List ByteArray)(n:Nat),i+m=(tx s).length→m+1<n→a≤i→v.length+m≤2000000 →
  dG s (c.toNat:Int) n v (a:Int) (i:Int)=some (.x0 (v++(ik (seg (tx s) a i) (bT c ((tx s).drop i))).map ofTx))
 |m,i,a,v,n,hi,A,t,hv=>by
  obtain⟨n,rfl⟩:∃k,n=k+2:=⟨n-2,by omega⟩
  have u:=df s;unfold dG;rw[Of (by omega:(i:Int)≤(s.size:Int)),Om];have d:inc (i:Int)=((i+1:Nat):Int):=by rw[eJ _ (by omega) (by omega)];omega
  cases m with
  |zero =>
   have hd:(tx s).drop i=[]:=OV (by omega);have stop:∀w b,dG s (c.toNat:Int) (n+1) w b ((i+1:Nat):Int)=some (.x0 w):=fun w b=>by unfold dG;rw[Oe (by omega)];rfl
   have hc:ik (seg (tx s) a i) (bT c ([]:List UInt8))=[seg (tx s) a i]:=by simp[bT,ik]
   have e:((i:Int)==(s.size:Int))=true:=by rw[PK];omega
   rw[e,Om,N5 (by omega),N5 (by simp;omega),d,stop,hd,hc,show((a:Int).toNat)=a by omega,show((i:Int).toNat)=i by omega,lP];rfl
  |succ m =>
   obtain⟨b,r,hd,j,x⟩:=DG (l:=tx s) (i:=i) (by omega);have hb:=Di j;have f:=fun o p (y:o≤i+1) (z:p.length+m≤2000000)=>Kr s c hs m (i+1) o p (n+1) (by omega) (by omega) y z
   rw[x]at f;have e:((i:Int)==(s.size:Int))=false:=by rw[O3];omega
   rw[e,Ou,N5 (by omega),hb,d,hd];by_cases q:b=c
   ·subst q;have g:ik (seg (tx s) a i) ([]::bT b r)=seg (tx s) a i::bT b r:=by simp[ik]
    have hz:ik (seg (tx s) (i+1) (i+1)) (bT b r)=bT b r:=by rw[qF];exact tD _ (ip _ _)
    have:=f (i+1) (v++[s.extract a i]) (by omega) (by simp;omega);rw[hz]at this;rw[beq_self_eq_true,Om,N5 (by omega),N5 (by simp;omega),qb,g];rw[show((a:Int).toNat)=a by omega,show((i:Int).toNat)=i by omega,this,lP];simp
   ·have e:((b.toNat:Int)==(c.toNat:Int))=false:=by rw[O3];intro h;exact q (Q3.1 (by omega))
    rw[e,Ou,f a v (by omega) (by omega),mE q,Bs _ _ _ (ip _ _), ←E3 t j]
theorem Ih (s:ByteArray)(c:Int)(hs:s.size≤2000000)(hc:0≤c∧c<256):nD s c=some (ak s c):=by
 have hz:ik (seg (tx s) 0 0) (bT (UInt8.ofNat c.toNat) (tx s))=bT (UInt8.ofNat c.toNat) (tx s):=by rw[qF];exact tD _ (ip _ _)
 have e:=Kr s (UInt8.ofNat c.toNat) hs (tx s).length 0 0 [] 9223372036854775808 (by omega) (by rw[←df];omega) (by omega) (by rw[←df];simp;omega);have a:(((UInt8.ofNat c.toNat).toNat:Nat):Int)=c:=by rw[UInt8.toNat_ofNat'];omega
 rw[OR,hz,OE,a]at e;unfold nD ak;refine(Ov (Option.bind · _) e).trans ?_;rfl
theorem aV (x0:ByteArray)(a:Int)(h:x0.size≤2000000)(hc:0≤a∧a<256):Does E 88 [N1 x0,.one (tY a)] [(false,[.s .own () 1 ((ak x0 a).map etS)])]:=by exact EZ x0 a _ (Ih x0 a h hc)
noncomputable def kP (x0:ByteArray)(b x2:Int):Option (Int×Int×Int×Bool):=cond (x0.toList==(⟨#[42]⟩:ByteArray).toList) (some (b,x2,1,true)) (cond (decide ((x0.size:Int)>(2:Int))) (if 0≤(0:Int)∧(0:Int)≤(2:Int)∧(2:Int)≤(x0.size:Int)then cond ((x0.extract (0:Int).toNat (2:Int).toNat).toList==(⟨#[42,47]⟩:ByteArray).toList) (if 0≤(2:Int)∧(2:Int)≤(x0.size:Int)∧(x0.size:Int)≤(x0.size:Int)then cond ((aa (x0.extract (2:Int).toNat (x0.size:Int).toNat)).2) (some (b,x2,(aa (x0.extract (2:Int).toNat (x0.size:Int).toNat)).1,decide (((aa (x0.extract (2:Int).toNat (x0.size:Int).toNat)).1)≥(1:Int)))) (some (b,x2,(aa (x0.extract (2:Int).toNat (x0.size:Int).toNat)).1,false))else none) (if x0.size≤2000000 then if 0≤(45:Int)∧(45:Int)<256 then(ap (ak x0 45) 0).bind fun a=>cond ((aa a).2) (cond (((ak x0 45).length:Int)==(2:Int)) ((ap (ak x0 45) 1).bind fun g1=>cond ((aa g1).2) (cond (decide (((ak x0 45).length:Int)≤(2:Int))) (cond (decide (b≤((aa a).1))) (cond (decide (((aa a).1)≤((aa g1).1))) (some ((aa a).1,(aa g1).1,1,decide (((aa g1).1)≤x2))) (some ((aa a).1,(aa g1).1,1,false))) (some ((aa a).1,(aa g1).1,1,false))) (some ((aa a).1,(aa g1).1,1,false))) (some ((aa a).1,(aa g1).1,1,false))) (cond (decide (((ak x0 45).length:Int)≤(2:Int))) (cond (decide (b≤((aa a).1))) (cond (decide (((aa a).1)≤((aa a).1))) (some ((aa a).1,(aa a).1,1,decide (((aa a).1)≤x2))) (some ((aa a).1,(aa a).1,1,false))) (some ((aa a).1,(aa a).1,1,false))) (some ((aa a).1,(aa a).1,1,false)))) (cond (((ak x0 45).length:Int)==(2:Int)) ((ap (ak x0 45) 1).bind fun g1=>some ((aa a).1,(aa g1).1,1,false)) (some ((aa a).1,(aa a).1,1,false)))else none else none)else none) (if x0.size≤2000000 then if 0≤(45:Int)∧(45:Int)<256 then(ap (ak x0 45) 0).bind fun a=>cond ((aa a).2) (cond (((ak x0 45).length:Int)==(2:Int)) ((ap (ak x0 45) 1).bind fun g1=>cond ((aa g1).2) (cond (decide (((ak x0 45).length:Int)≤(2:Int))) (cond (decide (b≤((aa a).1))) (cond (decide (((aa a).1)≤((aa g1).1))) (some ((aa a).1,(aa g1).1,1,decide (((aa g1).1)≤x2))) (some ((aa a).1,(aa g1).1,1,false))) (some ((aa a).1,(aa g1).1,1,false))) (some ((aa a).1,(aa g1).1,1,false))) (some ((aa a).1,(aa g1).1,1,false))) (cond (decide (((ak x0 45).length:Int)≤(2:Int))) (cond (decide (b≤((aa a).1))) (cond (decide (((aa a).1)≤((aa a).1))) (some ((aa a).1,(aa a).1,1,decide (((aa a).1)≤x2))) (some ((aa a).1,(aa a).1,1,false))) (some ((aa a).1,(aa a).1,1,false))) (some ((aa a).1,(aa a).1,1,false)))) (cond (((ak x0 45).length:Int)==(2:Int)) ((ap (ak x0 45) 1).bind fun g1=>some ((aa a).1,(aa g1).1,1,false)) (some ((aa a).1,(aa a).1,1,false)))else none else none))
theorem EW (x0:ByteArray)(p x2:Int):Ans (kP x0 p x2) (fun r=>Does E 89 [N1 x0,NZ p,NZ x2] [NW r.1,NW r.2.1,NW r.2.2.1,NX r.2.2.2]):=by
 unfold kP;apply NQ<;>intro e
 ·exact NN (DP Tryz.f89 [.b true] (AC e<|AN))
 ·apply NQ<;>intro h
  ·refine NS (fun f => ?_);apply NQ<;>intro g
   ·refine NS (fun c => ?_);apply NQ<;>intro d
    ·exact NN (DP Tryz.f89 [.b false,.b true,.b true,.ret [NW ((aa (x0.extract (2:Int).toNat (x0.size:Int).toNat)).1),NX true]] (AC e<|AC h<|AC f<|AC g<|AC c<|AD (ax (x0.extract (2:Int).toNat (x0.size:Int).toNat) d)<|AN))
    ·exact NN (DP Tryz.f89 [.b false,.b true,.b true,.ret [NW ((aa (x0.extract (2:Int).toNat (x0.size:Int).toNat)).1),NX false]] (AC e<|AC h<|AC f<|AC g<|AC c<|AD (ax (x0.extract (2:Int).toNat (x0.size:Int).toNat) d)<|AN))
   ·refine NS (fun c => ?_);refine NS (fun d => ?_);refine NR (fun a i => ?_);apply NQ<;>intro j
    ·apply NQ<;>intro k
     ·refine NR (fun g1 m => ?_);apply NQ<;>intro b
      ·apply NQ<;>intro l
       ·apply NQ<;>intro n
        ·apply NQ<;>intro o
         ·exact NN (DP Tryz.f89 [.b false,.b true,.b false,.ret [(false,[.s .own () 1 ((ak x0 45).map etS)])],.row (etS a),.ret [NW ((aa a).1),NX true],N2 ((ak x0 45).length:Int),.b true,.row (etS g1),.ret [NW ((aa g1).1),NX true],N2 ((ak x0 45).length:Int),.b true,.b true,.b true] (AC e<|AC h<|AC f<|AC g<|AD (aV x0 45 c d)<|AG etS i<|AD (ax a j)<|ALn (ak x0 45) etS<|AC k<|AG etS m<|AD (ax g1 b)<|ALn (ak x0 45) etS<|AC l<|AC n<|AC o<|AN))
         ·exact NN (DP Tryz.f89 [.b false,.b true,.b false,.ret [(false,[.s .own () 1 ((ak x0 45).map etS)])],.row (etS a),.ret [NW ((aa a).1),NX true],N2 ((ak x0 45).length:Int),.b true,.row (etS g1),.ret [NW ((aa g1).1),NX true],N2 ((ak x0 45).length:Int),.b true,.b true,.b false] (AC e<|AC h<|AC f<|AC g<|AD (aV x0 45 c d)<|AG etS i<|AD (ax a j)<|ALn (ak x0 45) etS<|AC k<|AG etS m<|AD (ax g1 b)<|ALn (ak x0 45) etS<|AC l<|AC n<|AC o<|AN))
        ·exact NN (DP Tryz.f89 [.b false,.b true,.b false,.ret [(false,[.s .own () 1 ((ak x0 45).map etS)])],.row (etS a),.ret [NW ((aa a).1),NX true],N2 ((ak x0 45).length:Int),.b true,.row (etS g1),.ret [NW ((aa g1).1),NX true],N2 ((ak x0 45).length:Int),.b true,.b false] (AC e<|AC h<|AC f<|AC g<|AD (aV x0 45 c d)<|AG etS i<|AD (ax a j)<|ALn (ak x0 45) etS<|AC k<|AG etS m<|AD (ax g1 b)<|ALn (ak x0 45) etS<|AC l<|AC n<|AN))
       ·exact NN (DP Tryz.f89 [.b false,.b true,.b false,.ret [(false,[.s .own () 1 ((ak x0 45).map etS)])],.row (etS a),.ret [NW ((aa a).1),NX true],N2 ((ak x0 45).length:Int),.b true,.row (etS g1),.ret [NW ((aa g1).1),NX true],N2 ((ak x0 45).length:Int),.b false] (AC e<|AC h<|AC f<|AC g<|AD (aV x0 45 c d)<|AG etS i<|AD (ax a j)<|ALn (ak x0 45) etS<|AC k<|AG etS m<|AD (ax g1 b)<|ALn (ak x0 45) etS<|AC l<|AN))
      ·exact NN (DP Tryz.f89 [.b false,.b true,.b false,.ret [(false,[.s .own () 1 ((ak x0 45).map etS)])],.row (etS a),.ret [NW ((aa a).1),NX true],N2 ((ak x0 45).length:Int),.b true,.row (etS g1),.ret [NW ((aa g1).1),NX false]] (AC e<|AC h<|AC f<|AC g<|AD (aV x0 45 c d)<|AG etS i<|AD (ax a j)<|ALn (ak x0 45) etS<|AC k<|AG etS m<|AD (ax g1 b)<|AN))
     ·apply NQ<;>intro m
      ·apply NQ<;>intro b
       ·apply NQ<;>intro l
        ·exact NN (DP Tryz.f89 [.b false,.b true,.b false,.ret [(false,[.s .own () 1 ((ak x0 45).map etS)])],.row (etS a),.ret [NW ((aa a).1),NX true],N2 ((ak x0 45).length:Int),.b false,N2 ((ak x0 45).length:Int),.b true,.b true,.b true] (AC e<|AC h<|AC f<|AC g<|AD (aV x0 45 c d)<|AG etS i<|AD (ax a j)<|ALn (ak x0 45) etS<|AC k<|ALn (ak x0 45) etS<|AC m<|AC b<|AC l<|AN))
        ·exact NN (DP Tryz.f89 [.b false,.b true,.b false,.ret [(false,[.s .own () 1 ((ak x0 45).map etS)])],.row (etS a),.ret [NW ((aa a).1),NX true],N2 ((ak x0 45).length:Int),.b false,N2 ((ak x0 45).length:Int),.b true,.b true,.b false] (AC e<|AC h<|AC f<|AC g<|AD (aV x0 45 c d)<|AG etS i<|AD (ax a j)<|ALn (ak x0 45) etS<|AC k<|ALn (ak x0 45) etS<|AC m<|AC b<|AC l<|AN))
       ·exact NN (DP Tryz.f89 [.b false,.b true,.b false,.ret [(false,[.s .own () 1 ((ak x0 45).map etS)])],.row (etS a),.ret [NW ((aa a).1),NX true],N2 ((ak x0 45).length:Int),.b false,N2 ((ak x0 45).length:Int),.b true,.b false] (AC e<|AC h<|AC f<|AC g<|AD (aV x0 45 c d)<|AG etS i<|AD (ax a j)<|ALn (ak x0 45) etS<|AC k<|ALn (ak x0 45) etS<|AC m<|AC b<|AN))
      ·exact NN (DP Tryz.f89 [.b false,.b true,.b false,.ret [(false,[.s .own () 1 ((ak x0 45).map etS)])],.row (etS a),.ret [NW ((aa a).1),NX true],N2 ((ak x0 45).length:Int),.b false,N2 ((ak x0 45).length:Int),.b false] (AC e<|AC h<|AC f<|AC g<|AD (aV x0 45 c d)<|AG etS i<|AD (ax a j)<|ALn (ak x0 45) etS<|AC k<|ALn (ak x0 45) etS<|AC m<|AN))
    ·apply NQ<;>intro k
     ·refine NR (fun g1 m => ?_);exact NN (DP Tryz.f89 [.b false,.b true,.b false,.ret [(false,[.s .own () 1 ((ak x0 45).map etS)])],.row (etS a),.ret [NW ((aa a).1),NX false],N2 ((ak x0 45).length:Int),.b true,.row (etS g1),.ret [NW ((aa g1).1),NX ((aa g1).2)]] (AC e<|AC h<|AC f<|AC g<|AD (aV x0 45 c d)<|AG etS i<|AD (ax a j)<|ALn (ak x0 45) etS<|AC k<|AG etS m<|AD (mU g1)<|AN))
     ·exact NN (DP Tryz.f89 [.b false,.b true,.b false,.ret [(false,[.s .own () 1 ((ak x0 45).map etS)])],.row (etS a),.ret [NW ((aa a).1),NX false],N2 ((ak x0 45).length:Int),.b false] (AC e<|AC h<|AC f<|AC g<|AD (aV x0 45 c d)<|AG etS i<|AD (ax a j)<|ALn (ak x0 45) etS<|AC k<|AN))
  ·refine NS (fun f => ?_);refine NS (fun g => ?_);refine NR (fun a c => ?_);apply NQ<;>intro d
   ·apply NQ<;>intro i
    ·refine NR (fun g1 j => ?_);apply NQ<;>intro k
     ·apply NQ<;>intro m
      ·apply NQ<;>intro b
       ·apply NQ<;>intro l
        ·exact NN (DP Tryz.f89 [.b false,.b false,.ret [(false,[.s .own () 1 ((ak x0 45).map etS)])],.row (etS a),.ret [NW ((aa a).1),NX true],N2 ((ak x0 45).length:Int),.b true,.row (etS g1),.ret [NW ((aa g1).1),NX true],N2 ((ak x0 45).length:Int),.b true,.b true,.b true] (AC e<|AC h<|AD (aV x0 45 f g)<|AG etS c<|AD (ax a d)<|ALn (ak x0 45) etS<|AC i<|AG etS j<|AD (ax g1 k)<|ALn (ak x0 45) etS<|AC m<|AC b<|AC l<|AN))
        ·exact NN (DP Tryz.f89 [.b false,.b false,.ret [(false,[.s .own () 1 ((ak x0 45).map etS)])],.row (etS a),.ret [NW ((aa a).1),NX true],N2 ((ak x0 45).length:Int),.b true,.row (etS g1),.ret [NW ((aa g1).1),NX true],N2 ((ak x0 45).length:Int),.b true,.b true,.b false] (AC e<|AC h<|AD (aV x0 45 f g)<|AG etS c<|AD (ax a d)<|ALn (ak x0 45) etS<|AC i<|AG etS j<|AD (ax g1 k)<|ALn (ak x0 45) etS<|AC m<|AC b<|AC l<|AN))
       ·exact NN (DP Tryz.f89 [.b false,.b false,.ret [(false,[.s .own () 1 ((ak x0 45).map etS)])],.row (etS a),.ret [NW ((aa a).1),NX true],N2 ((ak x0 45).length:Int),.b true,.row (etS g1),.ret [NW ((aa g1).1),NX true],N2 ((ak x0 45).length:Int),.b true,.b false] (AC e<|AC h<|AD (aV x0 45 f g)<|AG etS c<|AD (ax a d)<|ALn (ak x0 45) etS<|AC i<|AG etS j<|AD (ax g1 k)<|ALn (ak x0 45) etS<|AC m<|AC b<|AN))
      ·exact NN (DP Tryz.f89 [.b false,.b false,.ret [(false,[.s .own () 1 ((ak x0 45).map etS)])],.row (etS a),.ret [NW ((aa a).1),NX true],N2 ((ak x0 45).length:Int),.b true,.row (etS g1),.ret [NW ((aa g1).1),NX true],N2 ((ak x0 45).length:Int),.b false] (AC e<|AC h<|AD (aV x0 45 f g)<|AG etS c<|AD (ax a d)<|ALn (ak x0 45) etS<|AC i<|AG etS j<|AD (ax g1 k)<|ALn (ak x0 45) etS<|AC m<|AN))
     ·exact NN (DP Tryz.f89 [.b false,.b false,.ret [(false,[.s .own () 1 ((ak x0 45).map etS)])],.row (etS a),.ret [NW ((aa a).1),NX true],N2 ((ak x0 45).length:Int),.b true,.row (etS g1),.ret [NW ((aa g1).1),NX false]] (AC e<|AC h<|AD (aV x0 45 f g)<|AG etS c<|AD (ax a d)<|ALn (ak x0 45) etS<|AC i<|AG etS j<|AD (ax g1 k)<|AN))
    ·apply NQ<;>intro j
     ·apply NQ<;>intro k
      ·apply NQ<;>intro m
       ·exact NN (DP Tryz.f89 [.b false,.b false,.ret [(false,[.s .own () 1 ((ak x0 45).map etS)])],.row (etS a),.ret [NW ((aa a).1),NX true],N2 ((ak x0 45).length:Int),.b false,N2 ((ak x0 45).length:Int),.b true,.b true,.b true] (AC e<|AC h<|AD (aV x0 45 f g)<|AG etS c<|AD (ax a d)<|ALn (ak x0 45) etS<|AC i<|ALn (ak x0 45) etS<|AC j<|AC k<|AC m<|AN))
       ·exact NN (DP Tryz.f89 [.b false,.b false,.ret [(false,[.s .own () 1 ((ak x0 45).map etS)])],.row (etS a),.ret [NW ((aa a).1),NX true],N2 ((ak x0 45).length:Int),.b false,N2 ((ak x0 45).length:Int),.b true,.b true,.b false] (AC e<|AC h<|AD (aV x0 45 f g)<|AG etS c<|AD (ax a d)<|ALn (ak x0 45) etS<|AC i<|ALn (ak x0 45) etS<|AC j<|AC k<|AC m<|AN))
      ·exact NN (DP Tryz.f89 [.b false,.b false,.ret [(false,[.s .own () 1 ((ak x0 45).map etS)])],.row (etS a),.ret [NW ((aa a).1),NX true],N2 ((ak x0 45).length:Int),.b false,N2 ((ak x0 45).length:Int),.b true,.b false] (AC e<|AC h<|AD (aV x0 45 f g)<|AG etS c<|AD (ax a d)<|ALn (ak x0 45) etS<|AC i<|ALn (ak x0 45) etS<|AC j<|AC k<|AN))
     ·exact NN (DP Tryz.f89 [.b false,.b false,.ret [(false,[.s .own () 1 ((ak x0 45).map etS)])],.row (etS a),.ret [NW ((aa a).1),NX true],N2 ((ak x0 45).length:Int),.b false,N2 ((ak x0 45).length:Int),.b false] (AC e<|AC h<|AD (aV x0 45 f g)<|AG etS c<|AD (ax a d)<|ALn (ak x0 45) etS<|AC i<|ALn (ak x0 45) etS<|AC j<|AN))
   ·apply NQ<;>intro i
    ·refine NR (fun g1 j => ?_);exact NN (DP Tryz.f89 [.b false,.b false,.ret [(false,[.s .own () 1 ((ak x0 45).map etS)])],.row (etS a),.ret [NW ((aa a).1),NX false],N2 ((ak x0 45).length:Int),.b true,.row (etS g1),.ret [NW ((aa g1).1),NX ((aa g1).2)]] (AC e<|AC h<|AD (aV x0 45 f g)<|AG etS c<|AD (ax a d)<|ALn (ak x0 45) etS<|AC i<|AG etS j<|AD (mU g1)<|AN))
    ·exact NN (DP Tryz.f89 [.b false,.b false,.ret [(false,[.s .own () 1 ((ak x0 45).map etS)])],.row (etS a),.ret [NW ((aa a).1),NX false],N2 ((ak x0 45).length:Int),.b false] (AC e<|AC h<|AD (aV x0 45 f g)<|AG etS c<|AD (ax a d)<|ALn (ak x0 45) etS<|AC i<|AN))
noncomputable def lS (x0:ByteArray)(a x2:Int):Option (Int×Int×Int×Bool):=cond (x0.toList==(⟨#[42]⟩:ByteArray).toList) (some (a,x2,1,true)) (cond ((bS x0 (⟨#[42,47]⟩:ByteArray)).2) (cond ((aa ((bS x0 (⟨#[42,47]⟩:ByteArray)).1)).2) (some (a,x2,(aa ((bS x0 (⟨#[42,47]⟩:ByteArray)).1)).1,decide (((aa ((bS x0 (⟨#[42,47]⟩:ByteArray)).1)).1)≥(1:Int)))) (some (a,x2,(aa ((bS x0 (⟨#[42,47]⟩:ByteArray)).1)).1,false))) (if x0.size<4294967281 then cond ((aK x0 (⟨#[45]⟩:ByteArray)).2.2) (cond ((aa ((aK x0 (⟨#[45]⟩:ByteArray)).1)).2) (cond ((aa ((aK x0 (⟨#[45]⟩:ByteArray)).2.1)).2) (cond (decide (((aa ((aK x0 (⟨#[45]⟩:ByteArray)).1)).1)≥a)) (cond (decide (((aa ((aK x0 (⟨#[45]⟩:ByteArray)).1)).1)≤((aa ((aK x0 (⟨#[45]⟩:ByteArray)).2.1)).1))) (some ((aa ((aK x0 (⟨#[45]⟩:ByteArray)).1)).1,(aa ((aK x0 (⟨#[45]⟩:ByteArray)).2.1)).1,1,decide (((aa ((aK x0 (⟨#[45]⟩:ByteArray)).2.1)).1)≤x2))) (some ((aa ((aK x0 (⟨#[45]⟩:ByteArray)).1)).1,(aa ((aK x0 (⟨#[45]⟩:ByteArray)).2.1)).1,1,false))) (some ((aa ((aK x0 (⟨#[45]⟩:ByteArray)).1)).1,(aa ((aK x0 (⟨#[45]⟩:ByteArray)).2.1)).1,1,false))) (some ((aa ((aK x0 (⟨#[45]⟩:ByteArray)).1)).1,(aa ((aK x0 (⟨#[45]⟩:ByteArray)).2.1)).1,1,false))) (some ((aa ((aK x0 (⟨#[45]⟩:ByteArray)).1)).1,(aa ((aK x0 (⟨#[45]⟩:ByteArray)).2.1)).1,1,false))) (cond ((aa ((aK x0 (⟨#[45]⟩:ByteArray)).1)).2) (cond (decide (((aa ((aK x0 (⟨#[45]⟩:ByteArray)).1)).1)≥a)) (cond (decide (((aa ((aK x0 (⟨#[45]⟩:ByteArray)).1)).1)≤((aa ((aK x0 (⟨#[45]⟩:ByteArray)).1)).1))) (some ((aa ((aK x0 (⟨#[45]⟩:ByteArray)).1)).1,(aa ((aK x0 (⟨#[45]⟩:ByteArray)).1)).1,1,decide (((aa ((aK x0 (⟨#[45]⟩:ByteArray)).1)).1)≤x2))) (some ((aa ((aK x0 (⟨#[45]⟩:ByteArray)).1)).1,(aa ((aK x0 (⟨#[45]⟩:ByteArray)).1)).1,1,false))) (some ((aa ((aK x0 (⟨#[45]⟩:ByteArray)).1)).1,(aa ((aK x0 (⟨#[45]⟩:ByteArray)).1)).1,1,false))) (some ((aa ((aK x0 (⟨#[45]⟩:ByteArray)).1)).1,(aa ((aK x0 (⟨#[45]⟩:ByteArray)).1)).1,1,false)))else none))
theorem F0 (x0:ByteArray)(h x2:Int):Ans (lS x0 h x2) (fun r=>Does E 105 [N1 x0,NZ h,NZ x2] [NW r.1,NW r.2.1,NW r.2.2.1,NX r.2.2.2]):=by
 unfold lS;apply NQ<;>intro a
 ·exact NN (DP Tryz.f105 [.b true] (AC a<|AN))
 ·apply NQ<;>intro c
  ·apply NQ<;>intro b
   ·exact NN (DP Tryz.f105 [.b false,.ret [NY ((bS x0 (⟨#[42,47]⟩:ByteArray)).1),NX true],.ret [NW ((aa ((bS x0 (⟨#[42,47]⟩:ByteArray)).1)).1),NX true]] (AC a<|AD (NT (rs':=[NY ((bS x0 (⟨#[42,47]⟩:ByteArray)).1),NX true]) (bJ x0 (⟨#[42,47]⟩:ByteArray)) (by rw[c]))<|AD (bo ((bS x0 (⟨#[42,47]⟩:ByteArray)).1) b)<|AN))
   ·exact NN (DP Tryz.f105 [.b false,.ret [NY ((bS x0 (⟨#[42,47]⟩:ByteArray)).1),NX true],.ret [NW ((aa ((bS x0 (⟨#[42,47]⟩:ByteArray)).1)).1),NX false]] (AC a<|AD (NT (rs':=[NY ((bS x0 (⟨#[42,47]⟩:ByteArray)).1),NX true]) (bJ x0 (⟨#[42,47]⟩:ByteArray)) (by rw[c]))<|AD (bo ((bS x0 (⟨#[42,47]⟩:ByteArray)).1) b)<|AN))
  ·refine NS (fun b => ?_);apply NQ<;>intro e
   ·apply NQ<;>intro d
    ·apply NQ<;>intro f
     ·apply NQ<;>intro g
      ·apply NQ<;>intro i
       ·exact NN (DP Tryz.f105 [.b false,.ret [NY ((bS x0 (⟨#[42,47]⟩:ByteArray)).1),NX false],.ret [NY ((aK x0 (⟨#[45]⟩:ByteArray)).1),NY ((aK x0 (⟨#[45]⟩:ByteArray)).2.1),NX true],.ret [NW ((aa ((aK x0 (⟨#[45]⟩:ByteArray)).1)).1),NX true],.ret [NW ((aa ((aK x0 (⟨#[45]⟩:ByteArray)).2.1)).1),NX true],.b true,.b true] (AC a<|AD (NT (rs':=[NY ((bS x0 (⟨#[42,47]⟩:ByteArray)).1),NX false]) (bJ x0 (⟨#[42,47]⟩:ByteArray)) (by rw[c]))<|AD (NT (rs':=[NY ((aK x0 (⟨#[45]⟩:ByteArray)).1),NY ((aK x0 (⟨#[45]⟩:ByteArray)).2.1),NX true]) (ek x0 (⟨#[45]⟩:ByteArray) b) (by rw[e]))<|AD (bo ((aK x0 (⟨#[45]⟩:ByteArray)).1) d)<|AD (bo ((aK x0 (⟨#[45]⟩:ByteArray)).2.1) f)<|AC g<|AC i<|AN))
       ·exact NN (DP Tryz.f105 [.b false,.ret [NY ((bS x0 (⟨#[42,47]⟩:ByteArray)).1),NX false],.ret [NY ((aK x0 (⟨#[45]⟩:ByteArray)).1),NY ((aK x0 (⟨#[45]⟩:ByteArray)).2.1),NX true],.ret [NW ((aa ((aK x0 (⟨#[45]⟩:ByteArray)).1)).1),NX true],.ret [NW ((aa ((aK x0 (⟨#[45]⟩:ByteArray)).2.1)).1),NX true],.b true,.b false] (AC a<|AD (NT (rs':=[NY ((bS x0 (⟨#[42,47]⟩:ByteArray)).1),NX false]) (bJ x0 (⟨#[42,47]⟩:ByteArray)) (by rw[c]))<|AD (NT (rs':=[NY ((aK x0 (⟨#[45]⟩:ByteArray)).1),NY ((aK x0 (⟨#[45]⟩:ByteArray)).2.1),NX true]) (ek x0 (⟨#[45]⟩:ByteArray) b) (by rw[e]))<|AD (bo ((aK x0 (⟨#[45]⟩:ByteArray)).1) d)<|AD (bo ((aK x0 (⟨#[45]⟩:ByteArray)).2.1) f)<|AC g<|AC i<|AN))
      ·exact NN (DP Tryz.f105 [.b false,.ret [NY ((bS x0 (⟨#[42,47]⟩:ByteArray)).1),NX false],.ret [NY ((aK x0 (⟨#[45]⟩:ByteArray)).1),NY ((aK x0 (⟨#[45]⟩:ByteArray)).2.1),NX true],.ret [NW ((aa ((aK x0 (⟨#[45]⟩:ByteArray)).1)).1),NX true],.ret [NW ((aa ((aK x0 (⟨#[45]⟩:ByteArray)).2.1)).1),NX true],.b false] (AC a<|AD (NT (rs':=[NY ((bS x0 (⟨#[42,47]⟩:ByteArray)).1),NX false]) (bJ x0 (⟨#[42,47]⟩:ByteArray)) (by rw[c]))<|AD (NT (rs':=[NY ((aK x0 (⟨#[45]⟩:ByteArray)).1),NY ((aK x0 (⟨#[45]⟩:ByteArray)).2.1),NX true]) (ek x0 (⟨#[45]⟩:ByteArray) b) (by rw[e]))<|AD (bo ((aK x0 (⟨#[45]⟩:ByteArray)).1) d)<|AD (bo ((aK x0 (⟨#[45]⟩:ByteArray)).2.1) f)<|AC g<|AN))
     ·exact NN (DP Tryz.f105 [.b false,.ret [NY ((bS x0 (⟨#[42,47]⟩:ByteArray)).1),NX false],.ret [NY ((aK x0 (⟨#[45]⟩:ByteArray)).1),NY ((aK x0 (⟨#[45]⟩:ByteArray)).2.1),NX true],.ret [NW ((aa ((aK x0 (⟨#[45]⟩:ByteArray)).1)).1),NX true],.ret [NW ((aa ((aK x0 (⟨#[45]⟩:ByteArray)).2.1)).1),NX false]] (AC a<|AD (NT (rs':=[NY ((bS x0 (⟨#[42,47]⟩:ByteArray)).1),NX false]) (bJ x0 (⟨#[42,47]⟩:ByteArray)) (by rw[c]))<|AD (NT (rs':=[NY ((aK x0 (⟨#[45]⟩:ByteArray)).1),NY ((aK x0 (⟨#[45]⟩:ByteArray)).2.1),NX true]) (ek x0 (⟨#[45]⟩:ByteArray) b) (by rw[e]))<|AD (bo ((aK x0 (⟨#[45]⟩:ByteArray)).1) d)<|AD (bo ((aK x0 (⟨#[45]⟩:ByteArray)).2.1) f)<|AN))
    ·exact NN (DP Tryz.f105 [.b false,.ret [NY ((bS x0 (⟨#[42,47]⟩:ByteArray)).1),NX false],.ret [NY ((aK x0 (⟨#[45]⟩:ByteArray)).1),NY ((aK x0 (⟨#[45]⟩:ByteArray)).2.1),NX true],.ret [NW ((aa ((aK x0 (⟨#[45]⟩:ByteArray)).1)).1),NX false],.ret [NW ((aa ((aK x0 (⟨#[45]⟩:ByteArray)).2.1)).1),NX ((aa ((aK x0 (⟨#[45]⟩:ByteArray)).2.1)).2)]] (AC a<|AD (NT (rs':=[NY ((bS x0 (⟨#[42,47]⟩:ByteArray)).1),NX false]) (bJ x0 (⟨#[42,47]⟩:ByteArray)) (by rw[c]))<|AD (NT (rs':=[NY ((aK x0 (⟨#[45]⟩:ByteArray)).1),NY ((aK x0 (⟨#[45]⟩:ByteArray)).2.1),NX true]) (ek x0 (⟨#[45]⟩:ByteArray) b) (by rw[e]))<|AD (bo ((aK x0 (⟨#[45]⟩:ByteArray)).1) d)<|AD (qN ((aK x0 (⟨#[45]⟩:ByteArray)).2.1))<|AN))
   ·apply NQ<;>intro d
    ·apply NQ<;>intro f
     ·apply NQ<;>intro g
      ·exact NN (DP Tryz.f105 [.b false,.ret [NY ((bS x0 (⟨#[42,47]⟩:ByteArray)).1),NX false],.ret [NY ((aK x0 (⟨#[45]⟩:ByteArray)).1),NY ((aK x0 (⟨#[45]⟩:ByteArray)).2.1),NX false],.ret [NW ((aa ((aK x0 (⟨#[45]⟩:ByteArray)).1)).1),NX true],.b true,.b true] (AC a<|AD (NT (rs':=[NY ((bS x0 (⟨#[42,47]⟩:ByteArray)).1),NX false]) (bJ x0 (⟨#[42,47]⟩:ByteArray)) (by rw[c]))<|AD (NT (rs':=[NY ((aK x0 (⟨#[45]⟩:ByteArray)).1),NY ((aK x0 (⟨#[45]⟩:ByteArray)).2.1),NX false]) (ek x0 (⟨#[45]⟩:ByteArray) b) (by rw[e]))<|AD (bo ((aK x0 (⟨#[45]⟩:ByteArray)).1) d)<|AC f<|AC g<|AN))
      ·exact NN (DP Tryz.f105 [.b false,.ret [NY ((bS x0 (⟨#[42,47]⟩:ByteArray)).1),NX false],.ret [NY ((aK x0 (⟨#[45]⟩:ByteArray)).1),NY ((aK x0 (⟨#[45]⟩:ByteArray)).2.1),NX false],.ret [NW ((aa ((aK x0 (⟨#[45]⟩:ByteArray)).1)).1),NX true],.b true,.b false] (AC a<|AD (NT (rs':=[NY ((bS x0 (⟨#[42,47]⟩:ByteArray)).1),NX false]) (bJ x0 (⟨#[42,47]⟩:ByteArray)) (by rw[c]))<|AD (NT (rs':=[NY ((aK x0 (⟨#[45]⟩:ByteArray)).1),NY ((aK x0 (⟨#[45]⟩:ByteArray)).2.1),NX false]) (ek x0 (⟨#[45]⟩:ByteArray) b) (by rw[e]))<|AD (bo ((aK x0 (⟨#[45]⟩:ByteArray)).1) d)<|AC f<|AC g<|AN))
     ·exact NN (DP Tryz.f105 [.b false,.ret [NY ((bS x0 (⟨#[42,47]⟩:ByteArray)).1),NX false],.ret [NY ((aK x0 (⟨#[45]⟩:ByteArray)).1),NY ((aK x0 (⟨#[45]⟩:ByteArray)).2.1),NX false],.ret [NW ((aa ((aK x0 (⟨#[45]⟩:ByteArray)).1)).1),NX true],.b false] (AC a<|AD (NT (rs':=[NY ((bS x0 (⟨#[42,47]⟩:ByteArray)).1),NX false]) (bJ x0 (⟨#[42,47]⟩:ByteArray)) (by rw[c]))<|AD (NT (rs':=[NY ((aK x0 (⟨#[45]⟩:ByteArray)).1),NY ((aK x0 (⟨#[45]⟩:ByteArray)).2.1),NX false]) (ek x0 (⟨#[45]⟩:ByteArray) b) (by rw[e]))<|AD (bo ((aK x0 (⟨#[45]⟩:ByteArray)).1) d)<|AC f<|AN))
    ·exact NN (DP Tryz.f105 [.b false,.ret [NY ((bS x0 (⟨#[42,47]⟩:ByteArray)).1),NX false],.ret [NY ((aK x0 (⟨#[45]⟩:ByteArray)).1),NY ((aK x0 (⟨#[45]⟩:ByteArray)).2.1),NX false],.ret [NW ((aa ((aK x0 (⟨#[45]⟩:ByteArray)).1)).1),NX false]] (AC a<|AD (NT (rs':=[NY ((bS x0 (⟨#[42,47]⟩:ByteArray)).1),NX false]) (bJ x0 (⟨#[42,47]⟩:ByteArray)) (by rw[c]))<|AD (NT (rs':=[NY ((aK x0 (⟨#[45]⟩:ByteArray)).1),NY ((aK x0 (⟨#[45]⟩:ByteArray)).2.1),NX false]) (ek x0 (⟨#[45]⟩:ByteArray) b) (by rw[e]))<|AD (bo ((aK x0 (⟨#[45]⟩:ByteArray)).1) d)<|AN))
def uU (r:Int×Int×Int×Bool)(o:Option (Int×Int×Int)):Prop :=
 match o with|some (a,b,c)=>r=(a,b,c,true)|none=>r.2.2.2=false
noncomputable def sP (a:List (List UInt8))(lo hi:Int):Option (Int×Int×Int):=
 match a with
 |[p]=>if(aa (ofTx p)).2=true∧lo≤(aa (ofTx p)).1∧(aa (ofTx p)).1≤hi then some ((aa (ofTx p)).1,(aa (ofTx p)).1,1)else none
 |[p,q]=>if(aa (ofTx p)).2=true∧(aa (ofTx q)).2=true∧lo≤(aa (ofTx p)).1∧(aa (ofTx p)).1≤(aa (ofTx q)).1∧(aa (ofTx q)).1≤hi then some ((aa (ofTx p)).1,(aa (ofTx q)).1,1)else none
 |_=>none
theorem yb (p:List UInt8)(lo hi:Int):sP [p] lo hi=if(aa (ofTx p)).2=true∧lo≤(aa (ofTx p)).1∧(aa (ofTx p)).1≤hi then some ((aa (ofTx p)).1,(aa (ofTx p)).1,1)else none:=rfl
theorem EA (p q:List UInt8)(lo hi:Int):sP [p,q] lo hi=if(aa (ofTx p)).2=true∧(aa (ofTx q)).2=true∧lo≤(aa (ofTx p)).1∧(aa (ofTx p)).1≤(aa (ofTx q)).1∧(aa (ofTx q)).1≤hi then some ((aa (ofTx p)).1,(aa (ofTx q)).1,1)else none:=rfl
theorem EB (p q r:List UInt8)(l:List (List UInt8))(lo hi:Int):sP (p::q::r::l) lo hi=none:=rfl
noncomputable def tW (s:ByteArray)(lo hi:Int):Option (Int×Int×Int):=if tx s=[42]then some (lo,hi,1) else if [42,47].isPrefixOf (tx s)=true then (if(aa (ofTx ((tx s).drop 2))).2=true∧1≤(aa (ofTx ((tx s).drop 2))).1 then some (lo,hi,(aa (ofTx ((tx s).drop 2))).1)else none) else sP (bT 45 (tx s)) lo hi
noncomputable def cW (s:ByteArray)(lo hi:Int):Int×Int×Int×Bool:=(kP s lo hi).getD (0,0,0,false)
noncomputable def cV (s:ByteArray)(lo hi:Int):Int×Int×Int×Bool:=(lS s lo hi).getD (0,0,0,false)
theorem EC {o:Option (Int×Int×Int×Bool)}{p:Option (Int×Int×Int)}{d:Int×Int×Int×Bool}(h:∃r,o=some r∧uU r p):o=some (o.getD d)∧uU (o.getD d) p:=by obtain⟨r,rfl,h⟩:=h;exact⟨rfl,h⟩
theorem Kb (L:List ByteArray)(i:List (List UInt8))(n:L=i.map ofTx)(lo hi:Int)(m:∃x xs,i=x::xs):
  ∃r,((ap L 0).bind fun e=>cond ((aa e).2)
     (cond ((L.length:Int)==(2:Int))
      ((ap L 1).bind fun g1=>cond ((aa g1).2)
       (cond (decide ((L.length:Int)≤(2:Int)))
        (cond (decide (lo≤((aa e).1)))
         (cond (decide (((aa e).1)≤((aa g1).1)))
          (some ((aa e).1,(aa g1).1,1,decide (((aa g1).1)≤hi)))
          (some ((aa e).1,(aa g1).1,1,false)))
         (some ((aa e).1,(aa g1).1,1,false)))
        (some ((aa e).1,(aa g1).1,1,false)))
       (some ((aa e).1,(aa g1).1,1,false)))
      (cond (decide ((L.length:Int)≤(2:Int)))
       (cond (decide (lo≤((aa e).1)))
        (cond (decide (((aa e).1)≤((aa e).1)))
         (some ((aa e).1,(aa e).1,1,decide (((aa e).1)≤hi)))
         (some ((aa e).1,(aa e).1,1,false)))
        (some ((aa e).1,(aa e).1,1,false)))
       (some ((aa e).1,(aa e).1,1,false))))
     (cond ((L.length:Int)==(2:Int))
      ((ap L 1).bind fun g1=>some ((aa e).1,(aa g1).1,1,false))
      (some ((aa e).1,(aa e).1,1,false))))=some r∧uU r (sP i lo hi):=by
 subst n
 match i,m with
 |[p],_ =>
  have e:ap ([p].map ofTx) 0=some (ofTx p):=rfl;have j:((([p].map ofTx).length:Int)==2)=false:=rfl;have k:decide ((([p].map ofTx).length:Int)≤2)=true:=rfl;rw[e,j,k,yb,N4];simp only[Om,Ou];generalize aa (ofTx p)=a;obtain⟨a,b⟩:=a;cases b with
  |false=>exact⟨_,rfl,by rw[Oh (by simp)];exact rfl⟩
  |true =>
   rw[Om];by_cases f:lo≤a
   ·rw[Of f,Om,Of (Pc _),Om];refine⟨_,rfl,?_⟩;by_cases g:a≤hi
    ·rw[Of g,N5 ⟨rfl,f,g⟩];exact rfl
    ·rw[Oe g,Oh (fun h=>g h.2.2)];exact rfl
   ·rw[Oe f];exact⟨_,rfl,by rw[Oh (fun h=>f h.2.1)];exact rfl⟩
 |[p,q],_ =>
  have e:ap ([p,q].map ofTx) 0=some (ofTx p):=rfl;have g1:ap ([p,q].map ofTx) 1=some (ofTx q):=rfl;have j:((([p,q].map ofTx).length:Int)==2)=true:=rfl;have k:decide ((([p,q].map ofTx).length:Int)≤2)=true:=rfl;rw[e,g1,j,k,EA,N4,N4];simp only[Om,Ou];generalize aa (ofTx p)=a;generalize aa (ofTx q)=c;obtain⟨a,b⟩:=a;obtain⟨c,d⟩:=c;cases b with
  |false=>exact⟨_,rfl,by rw[Oh (by simp)];exact rfl⟩
  |true =>
   cases d with
   |false=>exact⟨_,rfl,by rw[Oh (by simp)];exact rfl⟩
   |true =>
    rw[Om,Om];by_cases f:lo≤a
    ·rw[Of f,Om];by_cases l:a≤c
     ·rw[Of l,Om];refine⟨_,rfl,?_⟩;by_cases g:c≤hi
      ·rw[Of g,N5 ⟨rfl,rfl,f,l,g⟩];exact rfl
      ·rw[Oe g,Oh (fun h=>g h.2.2.2.2)];exact rfl
     ·rw[Oe l];exact⟨_,rfl,by rw[Oh (fun h=>l h.2.2.2.1)];exact rfl⟩
    ·rw[Oe f];exact⟨_,rfl,by rw[Oh (fun h=>f h.2.2.1)];exact rfl⟩
 |p::q::t::i,_ =>
  have j:((((p::q::t::i).map ofTx).length:Int)==2)=false:=by rw[O3];simp;omega
  have k:decide ((((p::q::t::i).map ofTx).length:Int)≤2)=false:=Oe (by simp;omega);rw[j,k,EB];have e:ap ((p::q::t::i).map ofTx) 0=some (ofTx p):=rfl;rw[e,N4];cases(aa (ofTx p)).2 with
  |false=>exact⟨_,rfl,rfl⟩
  |true=>exact⟨_,rfl,rfl⟩
theorem BB (s:ByteArray)(lo hi:Int)(hs:s.size≤2000000):kP s lo hi=some (cW s lo hi)∧uU (cW s lo hi) (tW s lo hi):=by
 refine EC ?_;unfold kP tW;have j:tx (⟨#[42]⟩:ByteArray)=[42]:=rfl;have d:tx (⟨#[42,47]⟩:ByteArray)=[42,47]:=rfl;rw[jQ,j];by_cases h:tx s=[42]
 ·rw[Of h,N5 h];exact⟨_,rfl,rfl⟩
 ·have n:(s.size≤2000000)=True:=Qa hs;have hc:((0:Int)≤45∧(45:Int)<256)=True:=Qa (by decide);have o:ak s 45=(bT 45 (tx s)).map ofTx:=rfl;have k:=Kb (ak s 45) (bT 45 (tx s)) o lo hi (ip _ _);rw[Oe h,Oh h,Ou];simp only[n,hc,OH];have hz:=df s;by_cases f:2<s.size
  ·rw[Of (by omega),Om,N5 (by omega),jQ,d,zF];have g:[42,47].isPrefixOf (tx s)=decide (seg (tx s) (0:Int).toNat (2:Int).toNat=[42,47]):=by
    obtain⟨a,b,l,e⟩:∃a b l,tx s=a::b::l:=by
     cases q:tx s with
     |nil=>rw[q]at hz;have:s.size=0:=hz;omega
     |cons a l =>
      cases l with
      |nil=>rw[q]at hz;have:s.size=1:=hz;omega
      |cons b l=>exact⟨a,b,l,rfl⟩
    have:seg (a::b::l) (0:Int).toNat (2:Int).toNat=[a,b]:=by simp[seg]
    have p:∀x y:UInt8,(x==y)=decide (y=x):=fun x y=>by
     by_cases h:y=x
     ·subst h;simp
     ·rw[Oe h,O3];exact fun e=>h e.symm
    rw[e,this];simp[List.isPrefixOf,p]
   rw[g];have t:s.extract (2:Int).toNat (s.size:Int).toNat=ofTx ((tx s).drop 2):=by rw[lP];unfold seg;rw[Qh (by omega)];rfl
   by_cases q:seg (tx s) (0:Int).toNat (2:Int).toNat=[42,47]
   ·rw[Of q,Om,N5 rfl,N5 (by omega),t];generalize aa (ofTx ((tx s).drop 2))=a;obtain⟨a,b⟩:=a;cases b with
    |false=>exact⟨_,rfl,by rw[Oh (by simp)];exact rfl⟩
    |true =>
     refine⟨_,rfl,?_⟩;by_cases z:1≤a
     ·rw[Of (show a≥1 from z),N5 ⟨rfl,z⟩];exact rfl
     ·rw[Oe (show ¬a≥1 from z),Oh (fun h=>z h.2)];exact rfl
   ·rw[Oe q,Ou,Oh (by simp)];exact k
  ·rw[Oe (by omega),Ou];by_cases q:[42,47].isPrefixOf (tx s)=true
   ·rw[N5 q];have e:tx s=[42,47]:=by
     cases w:tx s with
     |nil=>rw[w]at q;simp[List.isPrefixOf]at q
     |cons a l =>
      cases l with
      |nil=>rw[w]at q;simp[List.isPrefixOf]at q
      |cons b l =>
       cases l with
       |nil=>rw[w]at q;simp[List.isPrefixOf]at q;rw[←q.1, ←q.2]
       |cons c l=>rw[w]at hz;simp at hz;omega
    have hb:(aa (ofTx ((tx s).drop 2)))=(0,false):=by
     rw[e];show aa (ofTx [])=_;unfold aa;rw[Oh (by decide)];have:¬tx (bp 0)=tx (ofTx []):=by unfold bp Lib.itoa;rw[Oh (by omega),Lib.decDigits,dif_pos (by simp)];simp[tx,ofTx]
     show(if(1000000000:Int)<0 then _ else if _ then _ else _)=_;rw[Oh (by decide),Oh this]
    rw[hb,Oh (by simp)];obtain⟨r,u,f⟩:=k;refine⟨r,u,?_⟩;rw[e]at f;have i:bT 45 ([42,47]:List UInt8)=[[42,47]]:=se (by decide);rw[i,yb]at f;have m:aa (ofTx [42,47])=(0,false):=xr (b:=42) (by rw[s7];simp) (by decide);simp only[m]at f;rw[Oh (by simp)]at f;exact f
   ·rw[Oh q];exact k
theorem BA (s:ByteArray)(lo hi:Int)(hs:s.size≤2000000):lS s lo hi=some (cV s lo hi)∧uU (cV s lo hi) (tW s lo hi):=by
 refine EC ?_;unfold lS tW;have k:tx (⟨#[42]⟩:ByteArray)=[42]:=rfl;rw[jQ,k];by_cases h:tx s=[42]
 ·rw[Of h,N5 h];exact⟨_,rfl,rfl⟩
 ·rw[Oe h,Oh h,Ou];have l:(bS s (⟨#[42,47]⟩:ByteArray)).2=[42,47].isPrefixOf (tx s):=rfl;rw[l];by_cases q:[42,47].isPrefixOf (tx s)=true
  ·have m:(bS s (⟨#[42,47]⟩:ByteArray)).1=ofTx ((tx s).drop 2):=by show ofTx (Lib.trimPrefix (tx s) [42,47])=_;unfold Lib.trimPrefix Lib.hasPrefix;rw[N5 q];rfl
   rw[q,Om,N5 rfl,m];generalize aa (ofTx ((tx s).drop 2))=a;obtain⟨a,b⟩:=a;cases b with
   |false=>exact⟨_,rfl,by rw[Oh (by simp)];exact rfl⟩
   |true =>
    refine⟨_,rfl,?_⟩;by_cases z:1≤a
    ·rw[Of (show a≥1 from z),N5 ⟨rfl,z⟩];exact rfl
    ·rw[Oe (show ¬a≥1 from z),Oh (fun h=>z h.2)];exact rfl
  ·rw[Oh q];rw[Ql]at q;rw[q,Ou,N5 (by omega)];rcases Dm (tx s) 45 with⟨i,f,j⟩|⟨a,b,i,f,j,o⟩
   ·have n:aK s (⟨#[45]⟩:ByteArray)=(s,ofTx [],false):=by show(ofTx (Lib.cut (tx s) [45]).1,ofTx (Lib.cut (tx s) [45]).2.1,(Lib.cut (tx s) [45]).2.2)=_;rw[f];rfl
    rw[n,j,yb];simp only[Ou];rw[sN];generalize aa s=a;obtain⟨a,b⟩:=a;cases b with
    |false=>exact⟨_,rfl,by rw[Oh (by simp)];exact rfl⟩
    |true =>
     rw[Om];by_cases i:lo≤a
     ·rw[Of (show a≥lo from i),Om,Of (Pc _),Om];refine⟨_,rfl,?_⟩;by_cases f:a≤hi
      ·rw[Of f,N5 ⟨rfl,i,f⟩];exact rfl
      ·rw[Oe f,Oh (fun h=>f h.2.2)];exact rfl
     ·rw[Oe (show ¬a≥lo from i)];exact⟨_,rfl,by rw[Oh (fun h=>i h.2.1)];exact rfl⟩
   ·have n:aK s (⟨#[45]⟩:ByteArray)=(ofTx a,ofTx b,true):=by show(ofTx (Lib.cut (tx s) [45]).1,ofTx (Lib.cut (tx s) [45]).2.1,(Lib.cut (tx s) [45]).2.2)=_;rw[j]
    rw[n,o];simp only[Om];by_cases hb:(45:UInt8)∈b
    ·have p:aa (ofTx b)=(0,false):=xr (b:=45) (by rw[s7];exact hb) (by decide);have r:∃x y z,bT 45 b=x::y::z:=by
      rcases Dm b 45 with⟨g,_⟩|⟨c,d,_,_,_,g⟩
      ·exact absurd hb g
      ·obtain⟨y,z,e⟩:=ip 45 d;exact⟨c,y,z,by rw[g,e]⟩
     obtain⟨x,y,z,e⟩:=r;rw[e,p,EB];cases(aa (ofTx a)).2 with
     |false=>exact⟨_,rfl,rfl⟩
     |true=>exact⟨_,rfl,rfl⟩
    ·rw[se hb,EA];generalize aa (ofTx a)=a;generalize aa (ofTx b)=c;obtain⟨a,b⟩:=a;obtain⟨c,d⟩:=c;cases b with
     |false=>exact⟨_,rfl,by rw[Oh (by simp)];exact rfl⟩
     |true =>
      cases d with
      |false=>exact⟨_,rfl,by rw[Oh (by simp)];exact rfl⟩
      |true =>
       rw[Om,Om];by_cases i:lo≤a
       ·rw[Of (show a≥lo from i),Om];by_cases j:a≤c
        ·rw[Of j,Om];refine⟨_,rfl,?_⟩;by_cases f:c≤hi
         ·rw[Of f,N5 ⟨rfl,rfl,i,j,f⟩];exact rfl
         ·rw[Oe f,Oh (fun h=>f h.2.2.2.2)];exact rfl
        ·rw[Oe j];exact⟨_,rfl,by rw[Oh (fun h=>j h.2.2.2.1)];exact rfl⟩
       ·rw[Oe (show ¬a≥lo from i)];exact⟨_,rfl,by rw[Oh (fun h=>i h.2.2.1)];exact rfl⟩
theorem Ll {s:ByteArray}{lo hi a b c:Int}(d:lo≤hi)(h:tW s lo hi=some (a,b,c)):lo≤a∧a≤b∧b≤hi∧1≤c∧c≤1000000000:=by
 unfold tW at h;split at h
 ·cases h;exact⟨Pc _,d,Pc _,Pc _,by decide⟩
 ·split at h
  ·split at h
   ·rename_i z;have:=Iv (ofTx ((tx s).drop 2));cases h;exact⟨Pc _,d,Pc _,z.2,this.2⟩
   ·cases h
  ·unfold sP at h;split at h
   ·split at h
    ·rename_i z;cases h;exact⟨z.2.1,Pc _,z.2.2,Pc _,by decide⟩
    ·cases h
   ·split at h
    ·rename_i z;cases h;exact⟨z.2.2.1,z.2.2.2.1,z.2.2.2.2,Pc _,by decide⟩
    ·cases h
   ·cases h
theorem C7 (x0:ByteArray)(a:Int)(x2:Int)(h:x0.size≤2000000):Does E 89 [N1 x0,NZ a,NZ x2] [NW ((cW x0 a x2).1),NW ((cW x0 a x2).2.1),NW ((cW x0 a x2).2.2.1),NX ((cW x0 a x2).2.2.2)]:=by exact EW x0 a x2 _ (BB x0 a x2 h).1
theorem rZ (x0:ByteArray)(a:Int)(x2:Int)(h:x0.size≤2000000){c:Bool}(b:(cW x0 a x2).2.2.2=c):Does E 89 [N1 x0,NZ a,NZ x2] [NW ((cW x0 a x2).1),NW ((cW x0 a x2).2.1),NW ((cW x0 a x2).2.2.1),NX c]:=by rw[←b];exact C7 x0 a x2 h
theorem Fo (x0:ByteArray)(a:Int)(x2:Int)(h:x0.size≤2000000):Does E 105 [N1 x0,NZ a,NZ x2] [NW ((cV x0 a x2).1),NW ((cV x0 a x2).2.1),NW ((cV x0 a x2).2.2.1),NX ((cV x0 a x2).2.2.2)]:=by exact F0 x0 a x2 _ (BA x0 a x2 h).1
theorem ui (x0:ByteArray)(a:Int)(x2:Int)(h:x0.size≤2000000){c:Bool}(b:(cV x0 a x2).2.2.2=c):Does E 105 [N1 x0,NZ a,NZ x2] [NW ((cV x0 a x2).1),NW ((cV x0 a x2).2.1),NW ((cV x0 a x2).2.2.1),NX c]:=by rw[←b];exact Fo x0 a x2 h
noncomputable def la (x0:Int):Option (Int×Int):=cond (x0==(0:Int)) (some (0,59)) (cond (x0==(1:Int)) (some (0,23)) (cond (x0==(2:Int)) (some (1,31)) (cond (x0==(3:Int)) (some (1,12)) (some (0,6)))))
theorem H7 (x0:Int):Ans (la x0) (fun r=>Does E 104 [NZ x0] [NW r.1,NW r.2]):=by
 unfold la;apply NQ<;>intro a
 ·exact NN (DP Tryz.f104 [.b true] (AC a<|AN))
 ·apply NQ<;>intro b
  ·exact NN (DP Tryz.f104 [.b false,.b true] (AC a<|AC b<|AN))
  ·apply NQ<;>intro c
   ·exact NN (DP Tryz.f104 [.b false,.b false,.b true] (AC a<|AC b<|AC c<|AN))
   ·apply NQ<;>intro d
    ·exact NN (DP Tryz.f104 [.b false,.b false,.b false,.b true] (AC a<|AC b<|AC c<|AC d<|AN))
    ·exact NN (DP Tryz.f104 [.b false,.b false,.b false,.b false] (AC a<|AC b<|AC c<|AC d<|AN))
noncomputable def aE (i:Int):Int×Int:=(la i).getD (0,0)
theorem Hy (i:Int):la i=some (aE i):=by refine Tot.getD ?_ _;unfold la;repeat' (first|exact Tot.some _|apply Tot.cond)
theorem I9 (i:Int):0≤(aE i).1∧(aE i).1≤(aE i).2∧(aE i).2≤59:=by unfold aE la;cases i==0<;>cases i==1<;>cases i==2<;>cases i==3<;>exact⟨by decide,by decide,by decide⟩
theorem cd (x0:Int):Does E 104 [NZ x0] [NW ((aE x0).1),NW ((aE x0).2)]:=by exact H7 x0 _ (Hy x0)
inductive uG where|x4 (v16:List Int)
def iu (v2:Int)(v8:List Bool)(v16:List Int)(a:Int):US:=stL 70 [(2,NZ v2),(8,.one (.s .own () 1 (v8.map etB))),(16,.one (.s .own () 1 (v16.map etI))),(17,NZ a)]
def nB (a:List Int):US:=stL 70 [(16,.one (.s .own () 1 (a.map etI)))]
abbrev pi:US→Exit→US→Prop:=Round E 74 (aw Tryz.f74 2)
def Cr (v2:Int)(v8:List Bool)(v16:List Int)(b:Int):uG→Prop| .x4 a=>Loops E 74 (aw Tryz.f74 2) (iu v2 v8 v16 b) (.exit 4) (nB a)
noncomputable def fp (v2:Int)(v8:List Bool):Nat→(List Int)→Int→Option uG| 0,_,_=>none|n+1,v16,a=>cond (decide (a≤v2)) ((ap v8 a).bind fun b=>cond (b) (if(v16.length+([a]).length)*8≤140737488355328∧v16.length+([a]).length≤4611686018427387904 then fp v2 v8 n (v16++([a])) (inc a)else none) (fp v2 v8 n v16 (inc a))) (some (.x4 v16))
theorem Co (v2:Int)(v8:List Bool)(n:Nat):∀(v16:List Int)(a:Int),Ans (fp v2 v8 n v16 a) (Cr v2 v8 v16 a):=by
 induction n with
 |zero=>intros;exact Ans.none
 |succ n e =>
  intro v16 a;unfold fp;apply NQ<;>intro c
  ·refine NR (fun f b => ?_);apply NQ<;>intro g
   ·refine NS (fun i => ?_);have r:pi (iu v2 v8 v16 a) .normal (iu v2 v8 (v16++([a])) (inc a)):=RP [.b true,.row ([tB true]),.rows ((v16++([a])).map etI)] (AC c<|AC (p:=0≤a∧a<((v8.map etB).length:Int)) (km b)<|AC (p:=(v8.map etB)[0+a.toNat]?=some ([tB true])) ((bR b).trans (Ov some (show [tB f]=[tB true] by rw[g])))<|AAp etI (fun _=>rfl) i<|AN);exact(e (v16++([a])) (inc a)).mono fun y d=>by cases y<;>exact NO r d
   ·have r:pi (iu v2 v8 v16 a) .normal (iu v2 v8 v16 (inc a)):=RP [.b true,.row ([tB false])] (AC c<|AC (p:=0≤a∧a<((v8.map etB).length:Int)) (km b)<|AC (p:=(v8.map etB)[0+a.toNat]?=some ([tB false])) ((bR b).trans (Ov some (show [tB f]=[tB false] by rw[g])))<|AN);exact(e v16 (inc a)).mono fun y d=>by cases y<;>exact NO r d
  ·exact NN (NP (show pi (iu v2 v8 v16 a) (.exit 4) (nB v16)from RP [.b false] (AC c<|AN)) (by intro h;cases h))
inductive uF where|x2 (v8:List Bool)
def me (v1 v2:Int)(v8:List Bool)(v9:List ByteArray)(v10 a b c:Int):US:=stL 70 [(1,NZ v1),(2,NZ v2),(8,.one (.s .own () 1 (v8.map etB))),(9,.one (.s .own () 1 (v9.map etS))),(10,NZ v10),(12,NZ a),(13,NZ b),(15,NZ c)]
def nA (v1 v2:Int)(v9:List ByteArray)(v10:Int)(a:List Bool):US:=stL 70 [(1,NZ v1),(2,NZ v2),(8,.one (.s .own () 1 (a.map etB))),(9,.one (.s .own () 1 (v9.map etS))),(10,NZ v10)]
abbrev uD:US→Exit→US→Prop:=Round E 74 (aw Tryz.f74 1)
def Cq (v1 v2:Int)(v8:List Bool)(v9:List ByteArray)(v10 a b c:Int):uF→Prop| .x2 d=>Loops E 74 (aw Tryz.f74 1) (me v1 v2 v8 v9 v10 a b c) (.exit 2) (nA v1 v2 v9 v10 d)
noncomputable def iv (b c:Int):Nat→(List Bool)→Int→Option uF| 0,_,_=>none|n+1,v8,a=>cond (decide (a≤b)) ((ap v8 a).bind fun d=>iv b c n (v8.set a.toNat true) (IntKind.wrap .i64 (a+c))) (some (.x2 v8))
theorem Cn (v1 v2:Int)(v9:List ByteArray)(v10 c b:Int)(n:Nat):∀(v8:List Bool)(a:Int),Ans (iv c b n v8 a) (Cq v1 v2 v8 v9 v10 c b a):=by
 induction n with
 |zero=>intros;exact Ans.none
 |succ n f =>
  intro v8 a;unfold iv;apply NQ<;>intro d
  ·refine NR (fun e g => ?_);have r:uD (me v1 v2 v8 v9 v10 c b a) .normal (me v1 v2 (v8.set a.toNat true) v9 v10 c b (IntKind.wrap .i64 (a+b))):=RP [.b true,.row (etB e),.rows ((v8.set a.toNat true).map etB)] (AC d<|AG etB g<|AC (p:=(v8.map etB).set (0+a.toNat) (an (etB e) 0 [tB true])=(v8.set a.toNat true).map etB) (cB (by rfl))<|AN);exact(f (v8.set a.toNat true) (IntKind.wrap .i64 (a+b))).mono fun y i=>by cases y<;>exact NO r i
  ·exact NN (NP (show uD (me v1 v2 v8 v9 v10 c b a) (.exit 2) (nA v1 v2 v9 v10 v8)from RP [.b false] (AC d<|AN)) (by intro h;cases h))
inductive uE where|ret (v6:List Int) (v7:Bool)|x0 (v8:List Bool)
def it (v1 v2:Int)(v8:List Bool)(v9:List ByteArray)(v10:Int):US:=stL 70 [(1,NZ v1),(2,NZ v2),(8,.one (.s .own () 1 (v8.map etB))),(9,.one (.s .own () 1 (v9.map etS))),(10,NZ v10)]
def my (a:List Int)(b:Bool):US:=stL 70 [(6,.one (.s .own () 1 (a.map etI))),(7,N0 b)]
def nz (v1 v2:Int)(a:List Bool):US:=stL 70 [(1,NZ v1),(2,NZ v2),(8,.one (.s .own () 1 (a.map etB)))]
abbrev pg:US→Exit→US→Prop:=Round E 74 (aw Tryz.f74 0)
def Cp (v1 v2:Int)(v8:List Bool)(v9:List ByteArray)(v10:Int):uE→Prop| .ret a b=>Loops E 74 (aw Tryz.f74 0) (it v1 v2 v8 v9 v10) .ret (my a b)| .x0 c=>Loops E 74 (aw Tryz.f74 0) (it v1 v2 v8 v9 v10) (.exit 0) (nz v1 v2 c)
noncomputable def ew (v1 v2:Int):List ByteArray→Nat→(List Bool)→Option uE
 |[],i,v8=>some (.x0 v8)
 |hd::rest,i,v8=>if hd.size≤2000000 then cond ((cW hd v1 v2).2.2.2)
  ((iv ((cW hd v1 v2).2.1) ((cW hd v1 v2).2.2.1) 9223372036854775808 v8 ((cW hd v1 v2).1)).bind fun y=>match y with
   | .x2 a=>(ew v1 v2 rest (i+1) a))
  (some (.ret ([]) false))else none
theorem Cm (v1 v2:Int)(v9:List ByteArray)(rest:List ByteArray):∀(i:Nat)(v8:List Bool),(v9).drop i=rest→v9.length≤9223372036854775807→Ans (ew v1 v2 rest i v8) (Cp v1 v2 v8 v9 (i:Int)):=by
 induction rest with
 |nil =>intro i v8 b d;have hb:=bw b;unfold ew;exact NN (NP (show pg (it v1 v2 v8 v9 (i:Int)) (.exit 0) (nz v1 v2 v8)from RP [N2 (v9.length:Int),.b false] (ALn v9 etS<|AC hb<|AN)) (by intro h;cases h))
 |cons hd rest k =>
  intro i v8 b d;have hb:=a8 b;have l:=ba b d;have e:=aG b;have f:=bc b;unfold ew;refine NS (fun g => ?_);apply NQ<;>intro j
  ·refine NR (fun y c => ?_);replace c:=Cn v1 v2 v9 (i:Int) ((cW hd v1 v2).2.1) ((cW hd v1 v2).2.2.1) 9223372036854775808 v8 ((cW hd v1 v2).1) y c;cases y with
   |x2 a =>have m:=c;exact(k (i+1) a e d).mono fun y c=>by have r:pg (it v1 v2 v8 v9 (i:Int)) .normal (it v1 v2 a v9 (inc (i:Int))):=RP [N2 (v9.length:Int),.b true,.row (etS hd),.ret [NW ((cW hd v1 v2).1),NW ((cW hd v1 v2).2.1),NW ((cW hd v1 v2).2.2.1),NX true],.lp (.exit 2) (nA v1 v2 v9 (i:Int) a)] (ALn v9 etS<|AC hb<|AG etS f<|AD (rZ hd v1 v2 g j)<|AL m<|AN);rw[l]at r;cases y<;>exact NO r c
  ·exact NN (NP (show pg (it v1 v2 v8 v9 (i:Int)) .ret (my ([]) false)from RP [N2 (v9.length:Int),.b true,.row (etS hd),.ret [NW ((cW hd v1 v2).1),NW ((cW hd v1 v2).2.1),NW ((cW hd v1 v2).2.2.1),NX false]] (ALn v9 etS<|AC hb<|AG etS f<|AD (rZ hd v1 v2 g j)<|AN)) (by intro h;cases h))
noncomputable def ib (x0:ByteArray)(e x2:Int):Option ((List Int)×Bool):=
  if 0≤(inc x2)∧(inc x2)≤(inc x2)∧((1:Nat):Int)*(inc x2)≤281474976710656∧(inc x2)≤4611686018427387904 then if x0.size≤2000000 then if 0≤(44:Int)∧(44:Int)<256 then if(ak x0 44).length≤9223372036854775807 then(ew e x2 (ak x0 44) 0 (List.replicate (inc x2).toNat false)).bind fun y=>match y with
   | .ret b c=>(some (b,c))
   | .x0 d=>((fp x2 d 9223372036854775808 ([]) e).bind fun y=>match y with
    | .x4 a=>(some (a,true)))else none else none else none else none
theorem ET (x0:ByteArray)(d x2:Int):Ans (ib x0 d x2) (fun r=>Does E 74 [N1 x0,NZ d,NZ x2] [(false,[.s .own () 1 (r.1.map etI)]),NX r.2]):=by
 unfold ib;refine NS (fun i => ?_);refine NS (fun j => ?_);refine NS (fun k => ?_);refine NS (fun g => ?_);refine NR (fun y a => ?_);replace a:=Cm d x2 (ak x0 44) (ak x0 44) 0 (List.replicate (inc x2).toNat false) rfl g y a;cases y with
 |ret e f =>have h:=a;exact NN (DP Tryz.f74 [.rows ((List.replicate (inc x2).toNat false).map etB),.ret [(false,[.s .own () 1 ((ak x0 44).map etS)])],.lp .ret (my e f)] (AC i<|AC (p:=List.replicate (inc x2).toNat [tB false]=(List.replicate (inc x2).toNat false).map etB) (qv rfl)<|AD (aV x0 44 j k)<|AL h<|AN))
 |x0 b =>
  have h:=a;refine NR (fun y a => ?_);replace a:=Co x2 b 9223372036854775808 ([]) d y a;cases y with
  |x4 c =>have l:=a;exact NN (DP Tryz.f74 [.rows ((List.replicate (inc x2).toNat false).map etB),.ret [(false,[.s .own () 1 ((ak x0 44).map etS)])],.lp (.exit 0) (nz d x2 b),.lp (.exit 4) (nB c)] (AC i<|AC (p:=List.replicate (inc x2).toNat [tB false]=(List.replicate (inc x2).toNat false).map etB) (qv rfl)<|AD (aV x0 44 j k)<|AL h<|AL l<|AN))
inductive ra where|x2 (v8:List Int)
def kq (v6 v7:Int)(v8:List Int)(a b c:Int)(v22:List ByteArray)(d v24:Int):US:=stL 56 [(6,NZ v6),(7,NZ v7),(8,.one (.s .own () 1 (v8.map etI))),(12,NZ a),(13,NZ b),(15,NZ c),(22,.one (.s .own () 1 (v22.map etS))),(23,NZ d),(24,NZ v24)]
def lE (v6 v7:Int)(v22:List ByteArray)(a v24:Int)(b:List Int):US:=stL 56 [(6,NZ v6),(7,NZ v7),(8,.one (.s .own () 1 (b.map etI))),(22,.one (.s .own () 1 (v22.map etS))),(23,NZ a),(24,NZ v24)]
abbrev qZ:US→Exit→US→Prop:=Round E 94 (aw Tryz.f94 1)
def y5 (v6 v7:Int)(v8:List Int)(b c d:Int)(v22:List ByteArray)(a v24:Int):ra→Prop| .x2 e=>Loops E 94 (aw Tryz.f94 1) (kq v6 v7 v8 b c d v22 a v24) (.exit 2) (lE v6 v7 v22 a v24 e)
noncomputable def gj (b c:Int):Nat→(List Int)→Int→Option ra| 0,_,_=>none|n+1,v8,a=>cond (decide (a≤b)) (if(v8.length+([a]).length)*8≤140737488355328∧v8.length+([a]).length≤4611686018427387904 then gj b c n (v8++([a])) (IntKind.wrap .i64 (a+c))else none) (some (.x2 v8))
theorem y3 (v6 v7 c b:Int)(v22:List ByteArray)(d v24:Int)(n:Nat):∀(v8:List Int)(a:Int),Ans (gj c b n v8 a) (y5 v6 v7 v8 c b a v22 d v24):=by
 induction n with
 |zero=>intros;exact Ans.none
 |succ n f =>
  intro v8 a;unfold gj;apply NQ<;>intro e
  ·refine NS (fun g => ?_);have r:qZ (kq v6 v7 v8 c b a v22 d v24) .normal (kq v6 v7 (v8++([a])) c b (IntKind.wrap .i64 (a+b)) v22 d v24):=RP [.b true,.rows ((v8++([a])).map etI)] (AC e<|AAp etI (fun _=>rfl) g<|AN);exact(f (v8++([a])) (IntKind.wrap .i64 (a+b))).mono fun y i=>by cases y<;>exact NO r i
  ·exact NN (NP (show qZ (kq v6 v7 v8 c b a v22 d v24) (.exit 2) (lE v6 v7 v22 d v24 v8)from RP [.b false] (AC e<|AN)) (by intro h;cases h))
inductive q9 where|ret (v4:List Int) (v5:Bool)|x0 (v8:List Int)
def gi (v6 v7:Int)(v8:List Int)(v22:List ByteArray)(a v24:Int):US:=stL 56 [(6,NZ v6),(7,NZ v7),(8,.one (.s .own () 1 (v8.map etI))),(22,.one (.s .own () 1 (v22.map etS))),(23,NZ a),(24,NZ v24)]
def kH (a:List Int)(b:Bool):US:=stL 56 [(4,.one (.s .own () 1 (a.map etI))),(5,N0 b)]
def lD (a:List Int):US:=stL 56 [(8,.one (.s .own () 1 (a.map etI)))]
abbrev ne:US→Exit→US→Prop:=Round E 94 (aw Tryz.f94 0)
def y4 (v6 v7:Int)(v8:List Int)(v22:List ByteArray)(a v24:Int):q9→Prop| .ret b c=>Loops E 94 (aw Tryz.f94 0) (gi v6 v7 v8 v22 a v24) .ret (kH b c)| .x0 d=>Loops E 94 (aw Tryz.f94 0) (gi v6 v7 v8 v22 a v24) (.exit 0) (lD d)
noncomputable def dk (v6 v7:Int):List ByteArray→Nat→(List Int)→Option q9
 |[],i,v8=>some (.x0 v8)
 |hd::rest,i,v8=>if hd.size≤2000000 then cond ((cV hd v6 v7).2.2.2)
  ((gj ((cV hd v6 v7).2.1) ((cV hd v6 v7).2.2.1) 9223372036854775808 v8 ((cV hd v6 v7).1)).bind fun y=>match y with
   | .x2 a=>(dk v6 v7 rest (i+1) a))
  (some (.ret ([]) false))else none
theorem yZ (v6 v7:Int)(v22:List ByteArray)(rest:List ByteArray):∀(i:Nat)(v8:List Int),(v22).drop i=rest→v22.length≤9223372036854775807→Ans (dk v6 v7 rest i v8) (y4 v6 v7 v8 v22 (v22.length:Int) (i:Int)):=by
 induction rest with
 |nil =>intro i v8 b d;have hb:=bw b;unfold dk;exact NN (NP (show ne (gi v6 v7 v8 v22 (v22.length:Int) (i:Int)) (.exit 0) (lD v8)from RP [.b false] (AC hb<|AN)) (by intro h;cases h))
 |cons hd rest k =>
  intro i v8 b d;have hb:=a8 b;have l:=ba b d;have e:=aG b;have f:=bc b;unfold dk;refine NS (fun g => ?_);apply NQ<;>intro j
  ·refine NR (fun y c => ?_);replace c:=y3 v6 v7 ((cV hd v6 v7).2.1) ((cV hd v6 v7).2.2.1) v22 (v22.length:Int) (i:Int) 9223372036854775808 v8 ((cV hd v6 v7).1) y c;cases y with
   |x2 a =>have m:=c;exact(k (i+1) a e d).mono fun y c=>by have r:ne (gi v6 v7 v8 v22 (v22.length:Int) (i:Int)) .normal (gi v6 v7 a v22 (v22.length:Int) (inc (i:Int))):=RP [.b true,.row (etS hd),.ret [NW ((cV hd v6 v7).1),NW ((cV hd v6 v7).2.1),NW ((cV hd v6 v7).2.2.1),NX true],.lp (.exit 2) (lE v6 v7 v22 (v22.length:Int) (i:Int) a)] (AC hb<|AG etS f<|AD (ui hd v6 v7 g j)<|AL m<|AN);rw[l]at r;cases y<;>exact NO r c
  ·exact NN (NP (show ne (gi v6 v7 v8 v22 (v22.length:Int) (i:Int)) .ret (kH ([]) false)from RP [.b true,.row (etS hd),.ret [NW ((cV hd v6 v7).1),NW ((cV hd v6 v7).2.1),NW ((cV hd v6 v7).2.2.1),NX false]] (AC hb<|AG etS f<|AD (ui hd v6 v7 g j)<|AN)) (by intro h;cases h))
noncomputable def gS (x0:ByteArray)(d:Int):Option ((List Int)×Bool):=
  if x0.size<4294967281 then if 1≤(⟨#[44]⟩:ByteArray).size then if(dR x0 (⟨#[44]⟩:ByteArray)).length≤9223372036854775807 then(dk ((aE d).1) ((aE d).2) (dR x0 (⟨#[44]⟩:ByteArray)) 0 ([])).bind fun y=>match y with
   | .ret b c=>(some (b,c))
   | .x0 a=>(if a.length<4611686018427387904 then if(dO a).length≤9223372036854775807 then some (id (iS (dO a)),true)else none else none)else none else none else none
theorem Af (x0:ByteArray)(b:Int):Ans (gS x0 b) (fun r=>Does E 94 [N1 x0,NZ b] [(false,[.s .own () 1 (r.1.map etI)]),NX r.2]):=by
 unfold gS;refine NS (fun h => ?_);refine NS (fun i => ?_);refine NS (fun f => ?_);refine NR (fun y e => ?_);replace e:=yZ ((aE b).1) ((aE b).2) (dR x0 (⟨#[44]⟩:ByteArray)) (dR x0 (⟨#[44]⟩:ByteArray)) 0 ([]) rfl f y e;cases y with
 |ret c d =>have g:=e;exact NN (DP Tryz.f94 [.ret [NW ((aE b).1),NW ((aE b).2)],.ret [(false,[.s .own () 1 ((dR x0 (⟨#[44]⟩:ByteArray)).map etS)])],N2 ((dR x0 (⟨#[44]⟩:ByteArray)).length:Int),.lp .ret (kH c d)] (AD (cd b)<|AD (kk x0 (⟨#[44]⟩:ByteArray) h i)<|ALn (dR x0 (⟨#[44]⟩:ByteArray)) etS<|AL g<|AN))
 |x0 a =>have g:=e;refine NS (fun j => ?_);refine NS (fun l => ?_);exact NN (DP Tryz.f94 [.ret [NW ((aE b).1),NW ((aE b).2)],.ret [(false,[.s .own () 1 ((dR x0 (⟨#[44]⟩:ByteArray)).map etS)])],N2 ((dR x0 (⟨#[44]⟩:ByteArray)).length:Int),.lp (.exit 0) (lD a),.ret [(false,[.s .own () 1 ((dO a).map etI)])],.ret [(false,[.any]),(false,[.s .own () 1 ((iS (dO a)).map etI)])],.ret [(false,[.any]),(false,[.s .own () 1 ((id (iS (dO a))).map etI)])]] (AD (cd b)<|AD (kk x0 (⟨#[44]⟩:ByteArray) h i)<|ALn (dR x0 (⟨#[44]⟩:ByteArray)) etS<|AL g<|AC (p:=(a.map etI).length=(a.map etI).length) rfl<|AV (ψ:=fun k=>E.C k 100 [.one (.s .own () 1 (a.map etI))]=some [(false,[.s .own () 1 ((dO a).map etI)])]) (pp a j)<|AV (ψ:=fun k=>E.C k 107 [.one (.s .own () 1 ((dO a).map etI))]=some [(false,[.any]),(false,[.s .own () 1 ((iS (dO a)).map etI)])]) (tc (dO a) l)<|AV (ψ:=fun k=>E.C k 106 [.one (.s .own () 1 ((iS (dO a)).map etI))]=some [(false,[.any]),(false,[.s .own () 1 ((id (iS (dO a))).map etI)])]) (wN (iS (dO a)))<|AN))
def Marks (lo hi:Int)(a:List Bool)(l:List Int):Prop :=(a.length:Int)=hi+1∧(∀x∈l,lo≤x∧x≤hi)∧∀j:Nat,(j:Int)≤hi→(a[j]?=some true↔(j:Int)∈l)
theorem Marks.add {lo hi:Int}{a:List Bool}{l:List Int}(h:Marks lo hi a l)(i:0≤lo){x:Int}(b:lo≤x∧x≤hi):Marks lo hi (a.set x.toNat true) (l++[x]):=by
 obtain⟨c,d,f⟩:=h;refine⟨by rw[Qe];exact c,fun y hy => ?_,fun j g => ?_⟩
 ·rcases OD.1 hy with hy|hy
  ·exact d y hy
  ·rw[Oc]at hy;subst hy;exact b
 ·rw[OD,Oc,List.getElem?_set];by_cases e:x.toNat=j
  ·rw[N5 e,N5 (by omega)];exact⟨fun _ => .inr (by omega),fun _=>rfl⟩
  ·rw[Oh e,f j g];exact⟨.inl,fun h=>h.resolve_right (by omega)⟩
theorem EM (lo hi b st:Int)(m:0≤lo)(f:hi≤59)(hb:b≤hi)(o:1≤st)(p:st≤1000000000):∀(k n:Nat)(a:Int)(c:List Bool)(l:List Int),(b-a+1).toNat≤k→k<n→lo≤a→a≤1000000100→Marks lo hi c l→l.length+k≤1000000000 →
  ∃d l',iv b st n c a=some (.x2 d)∧gj b st n l a=some (.x2 l')∧Marks lo hi d l'∧l'.length≤l.length+k∧(a≤b∨l≠[]→l'≠[])
 |k,0,a,c,l,_,r,_,_,_,_=>by omega
 |k,n+1,a,c,l,z,r,A,s,i,B=>by
  unfold iv gj;by_cases q:a≤b
  ·obtain⟨g,t,_⟩:=fi (l:=c) (k:=a) (by have:=i.1;omega);obtain⟨k,rfl⟩:∃j,k=j+1:=⟨k-1,by omega⟩
   have e:IntKind.wrap .i64 (a+st)=a+st:=du _ (by omega) (by omega);obtain⟨d,l',u,v,w,x,y⟩:=EM lo hi b st m f hb o p k n (a+st) (c.set a.toNat true) (l++[a]) (by omega) (by omega) (by omega) (by omega) (i.add m (by omega)) (by simp;omega);refine⟨d,l',?_,?_,w,by simp at x;omega,fun _=>y (.inr (by simp))⟩
   ·rw[Of q,Om,t,N4,e];exact u
   ·rw[Of q,Om,N5 (by simp;omega),e];exact v
  ·rw[Oe q];exact⟨c,l,rfl,rfl,i,by omega,fun h=>h.resolve_left q⟩
theorem xc (lo hi:Int)(s:0≤lo)(k:lo≤hi)(m:hi≤59):∀(f:List ByteArray)(i:Nat)(c:List Bool)(l:List Int),(∀p∈f,p.size≤2000000)→Marks lo hi c l→l.length+f.length*60≤1000000000 →
  (ew lo hi f i c=some (.ret [] false)∧dk lo hi f i l=some (.ret [] false)) ∨
  ∃d l',ew lo hi f i c=some (.x0 d)∧dk lo hi f i l=some (.x0 l')∧Marks lo hi d l'∧l'.length≤l.length+f.length*60∧(f≠[]∨l≠[]→l'≠[])
 |[],i,c,l,_,o,_ => .inr ⟨c,l,rfl,rfl,o,by simp,fun h=>h.resolve_left fun h=>h rfl⟩
 |p::f,i,c,l,t,o,u=>by
  have q:=t p (by simp);obtain⟨-,g⟩:=BB p lo hi q;obtain⟨-,j⟩:=BA p lo hi q;unfold ew dk;simp only[N5 q];cases e:tW p lo hi with
  |none =>rw[e]at g j;have g:(cW p lo hi).2.2.2=false:=g;have j:(cV p lo hi).2.2.2=false:=j;rw[g,j];exact .inl ⟨rfl,rfl⟩
  |some x =>
   obtain⟨a,b,st⟩:=x;rw[e]at g j;have g:cW p lo hi=(a,b,st,true):=g;have j:cV p lo hi=(a,b,st,true):=j;obtain⟨v,a2,a3,a4,a5⟩:=Ll k e;simp only[OI]at u;obtain⟨d,l',w,y,z,D,A⟩:=EM lo hi b st s m a3 a4 a5 60 9223372036854775808 a c l (by omega) (by omega) v (by omega) o (by omega);rw[g,j];simp only[Om,w,y,N4];rcases xc lo hi s k m f (i+1) d l' (fun p r=>t p (by simp[r])) z (by omega)with h|⟨n,l2,g1,B,g3,g4,C⟩
   ·exact .inl h
   ·exact .inr ⟨n,l2,g1,B,g3,by rw[OI];omega,fun _=>C (.inr (A (.inl a2)))⟩
theorem It (hi:Int)(c:List Bool)(hh:(c.length:Int)=hi+1)(d:hi≤59):∀(k n:Nat)(x:Int)(v:List Int),(hi-x+1).toNat≤k→k<n→0≤x→x≤100→v.length+k≤1000→v.Pairwise (· < ·)→(∀y∈v,y<x) →
  ∃w,fp hi c n v x=some (.x4 w)∧w.Pairwise (· < ·)∧∀y,y∈w↔y∈v∨(x≤y∧y≤hi∧c[y.toNat]?=some true)
 |k,0,x,v,_,u,_,_,_,_,_=>by omega
 |k,n+1,x,v,C,u,D,A,F,i,m=>by
  unfold fp;by_cases q:x≤hi
  ·obtain⟨g,t,_⟩:=fi (l:=c) (k:=x) (by omega);have f:=(mJ t).2;obtain⟨k,rfl⟩:∃j,k=j+1:=⟨k-1,by omega⟩
   have e:inc x=x+1:=eJ _ (by omega) (by omega);rw[Of q,Om,t,N4];cases g with
   |true =>
    obtain⟨w,o,p,r⟩:=It hi c hh d k n (x+1) (v++[x]) (by omega) (by omega) (by omega) (by omega) (by simp;omega)
     (by rw[QI];exact⟨i,by simp,fun a B b hb=>by rw[Oc]at hb;subst hb;exact m a B⟩)
     (fun y s=>by rcases OD.1 s with h|h;have:=m y h;omega;rw[Oc]at h;omega)
    refine⟨w,by rw[Om,N5 (by simp;omega),e];exact o,p,fun y => ?_⟩;rw[r,OD,Oc];constructor
    ·rintro((h|rfl)|h)
     ·exact .inl h
     ·exact .inr ⟨Pc _,q,f⟩
     ·exact .inr ⟨by omega,h.2⟩
    ·rintro(h|h)
     ·exact .inl (.inl h)
     ·by_cases z:y=x
      ·exact .inl (.inr z)
      ·exact .inr ⟨by omega,h.2⟩
   |false =>
    obtain⟨w,o,p,r⟩:=It hi c hh d k n (x+1) v (by omega) (by omega) (by omega) (by omega) (by omega) i (fun y s=>by have:=m y s;omega);refine⟨w,by rw[Ou,e];exact o,p,fun y => ?_⟩;rw[r];constructor
    ·rintro(h|h)
     ·exact .inl h
     ·exact .inr ⟨by omega,h.2⟩
    ·rintro(h|h)
     ·exact .inl h
     ·by_cases z:y=x
      ·subst z;rw[f]at h;exact absurd h.2.2 (by simp)
      ·exact .inr ⟨by omega,h.2⟩
  ·rw[Oe q];exact⟨v,rfl,i,fun y=>⟨.inl,fun h=>h.resolve_right fun h=>by omega⟩⟩
theorem tZ (lo hi:Int):∀(l:List Int)(a:Int),l.Pairwise (· < ·)→(∀x∈l,a≤x∧x≤hi)→a≤hi+1→(l.length:Int)≤hi+1-a
 |[],a,_,_,h=>by simp;omega
 |x::l,a,b,c,h=>by rw[QO]at b;have:=c x (by simp);have:=tZ lo hi l (x+1) b.2 (fun y d=>⟨by have:=b.1 y d;omega,(c y (by simp[d])).2⟩) (by omega);simp;omega
noncomputable def ac (s:ByteArray)(lo hi:Int):List Int×Bool:=(ib s lo hi).getD ([],false)
noncomputable def aP (s:ByteArray)(i:Int):List Int×Bool:=ac s (aE i).1 (aE i).2
def IW (lo hi:Int)(r:List Int×Bool):Prop:=(r.2=false∧r.1=[])∨(r.2=true∧r.1.Pairwise (· < ·)∧r.1≠[]∧(∀x∈r.1,lo≤x∧x≤hi)∧r.1.length≤60)
theorem xQ (s:ByteArray)(lo hi:Int)(hs:s.size≤2000000)(hb:0≤lo∧lo≤hi∧hi≤59):ib s lo hi=some (ac s lo hi)∧IW lo hi (ac s lo hi)∧∀i,aE i=(lo,hi)→gS s i=some (ac s lo hi):=by
 obtain⟨M,C,f⟩:=hb;have g:inc hi=hi+1:=eJ _ (by omega) (by omega);have S:=xN 44 (tx s);rw[←df]at S;have B:ak s 44=(bT 44 (tx s)).map ofTx:=rfl;have N:(ak s 44).length≤2000001:=by rw[B,OF];omega
 have D:∀p∈ak s 44,p.size≤2000000:=fun p O=>by rw[B]at O;obtain⟨x,k,rfl⟩:=Oo.1 O;have:=xO _ _ x k;rw[oP];rw[←df]at this;omega
 have U:Marks lo hi (List.replicate (inc hi).toNat false) []:=by refine⟨by rw[List.length_replicate,g];omega,fun x k=>(by cases k),fun j hj => ?_⟩;rw[Qr,N5 (by omega)];simp
 have F:ak s 44≠[]:=by obtain⟨x,xs,e⟩:=ip 44 (tx s);rw[B,e];simp
 have hc:((0:Int)≤44∧(44:Int)<256)=True:=Qa (by decide);have pre:(s.size≤2000000)=True:=Qa hs;have P:∀i,aE i=(lo,hi)→∀r,(dk lo hi (ak s 44) 0 []).bind (fun y=>match y with
   | .ret m n=>(some (m,n))
   | .x0 a=>(if a.length<4611686018427387904 then if(dO a).length≤9223372036854775807 then some (id (iS (dO a)),true)else none else none))=some r→gS s i=some r:=fun i hi r V=>by
  unfold gS;rw[N5 (by omega),N5 (by decide),zy, ←B,N5 (by omega),hi];exact V
 have d:ib s lo hi=(ew lo hi (ak s 44) 0 (List.replicate (inc hi).toNat false)).bind fun y=>match y with
   | .ret o u=>(some (o,u))
   | .x0 a=>((fp hi a 9223372036854775808 ([]) lo).bind fun y=>match y with
    | .x4 c=>(some (c,true))):=by
  unfold ib;simp only[hc,pre,OH];rw[N5 (by omega),N5 (by omega)]
 rcases xc lo hi M C f (ak s 44) 0 _ [] D U (by simp;omega)with⟨G,H⟩|⟨I,l,G,H,v,Q,W⟩
 ·rw[G]at d;have A:ib s lo hi=some ([],false):=d;have e:ac s lo hi=([],false):=by unfold ac;rw[A];rfl
  rw[e];exact⟨A,.inl ⟨rfl,rfl⟩,fun i hi=>P i hi _ (by rw[H];rfl)⟩
 ·obtain⟨w,X,J,Y⟩:=It hi I v.1 f 60 9223372036854775808 lo [] (by omega) (by omega) M (by omega) (by simp) (by simp) (fun y Z=>by cases Z);have K:∀y,y∈w↔y∈l:=fun y=>by
   rw[Y];constructor
   ·rintro(h|⟨a1,a2,a3⟩)
    ·cases h
    ·have:=(v.2.2 y.toNat (by omega)).1 a3
     rwa [show((y.toNat:Nat):Int)=y by omega]at this
   ·intro h;have b:=v.2.1 y h;refine .inr ⟨b.1,b.2,(v.2.2 y.toNat (by omega)).2 ?_⟩
    rwa [show((y.toNat:Nat):Int)=y by omega]
  obtain⟨c1,c2⟩:=E5 l;have e3:iS (dO l)=w:=wz c1 J fun y=>(c2 y).trans (K y).symm
  rw[G,N4]at d;simp only[X,N4]at d;have e:ac s lo hi=(w,true):=by unfold ac;rw[d];rfl
  rw[e];have R:∀x∈w,lo≤x∧x≤hi:=fun x k=>v.2.1 x ((K x).1 k)
  have wl:=tZ lo hi w lo J R (by omega);refine⟨d,.inr ⟨rfl,J,fun z => ?_,R,by show w.length≤60;omega⟩,fun i hi=>P i hi _ ?_⟩
  ·have L:=W (.inl F);cases q:l with
   |nil=>exact L q
   |cons x t=>have:=(K x).2 (by rw[q];simp);rw[show w=[]from z]at this;cases this
  ·rw[H,N4];simp only;have sl:(dO l).length=l.length:=List.length_mergeSort l;rw[sl,N5 (by simp at Q;omega),N5 (by simp at Q;omega),e3];rfl
theorem Ch (s:ByteArray)(i:Int)(hs:s.size≤2000000):gS s i=some (aP s i):=(xQ s _ _ hs (I9 i)).2.2 i rfl
theorem ea (x0:ByteArray)(a:Int)(x2:Int)(h:x0.size≤2000000)(hb:0≤a∧a≤x2∧x2≤59):Does E 74 [N1 x0,NZ a,NZ x2] [(false,[.s .own () 1 (((ac x0 a x2).1).map etI)]),NX ((ac x0 a x2).2)]:=by exact ET x0 a x2 _ (xQ x0 a x2 h hb).1
theorem zN (x0:ByteArray)(a:Int)(h:x0.size≤2000000):Does E 94 [N1 x0,NZ a] [(false,[.s .own () 1 (((aP x0 a).1).map etI)]),NX ((aP x0 a).2)]:=by exact Af x0 a _ (Ch x0 a h)
theorem co (x0:ByteArray)(a:Int)(h:x0.size≤2000000){c:Bool}(b:(aP x0 a).2=c):Does E 94 [N1 x0,NZ a] [(false,[.s .own () 1 (((aP x0 a).1).map etI)]),NX c]:=by rw[←b];exact zN x0 a h
end
end Go.Proofs.YtkgecjmfkcohkaaGreatDoor.Am
