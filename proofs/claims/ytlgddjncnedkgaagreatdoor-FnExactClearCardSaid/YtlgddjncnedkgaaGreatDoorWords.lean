/- Numbers in words. -/
import Derived.Test.YtlgddjncnedkgaaGreatDoorEnv
import Derived.Test.YtlgddjncnedkgaaGreatDoorShelf
namespace Go.Proofs.YtlgddjncnedkgaaGreatDoor.Am
open Go
set_option linter.unusedVariables false
set_option linter.unusedSimpArgs false
section
open Go.Proofs Classical
set_option maxRecDepth 100000
structure GCron where
 f0:List Int
 f1:List Int
 f2:List Int
 f3:List Int
 f4:List Int
def Wb (k:Kd)(x:GCron):List (T Unit):=[.s k () 1 (x.f0.map etI),.s k () 1 (x.f1.map etI),.s k () 1 (x.f2.map etI),.s k () 1 (x.f3.map etI),.s k () 1 (x.f4.map etI)]
instance:ab GCron:=⟨fun x=>ab.sm x.f0∧ab.sm x.f1∧ab.sm x.f2∧ab.sm x.f3∧ab.sm x.f4⟩
instance:Wf GCron:=⟨fun x=>Wf.wf x.f0∧Wf.wf x.f1∧Wf.wf x.f2∧Wf.wf x.f3∧Wf.wf x.f4⟩
structure GSession where
 f0:Int
 f1:Int
 f2:Zz
def Wg (x:GSession):List (T Unit):=[tI x.f0,tI x.f1,tS x.f2]
instance:ab GSession:=⟨fun x=>ab.sm x.f2⟩
instance:Wf GSession:=⟨fun x=>Wf.wf x.f2⟩
structure GTask where
 f0:Zz
 f1:Zz
 f2:Int
 f3:Bool
 f4:List Zz
def Wj (k:Kd)(x:GTask):List (T Unit):=[tS x.f0,tS x.f1,tI x.f2,tB x.f3,.s k () 1 (x.f4.map etS)]
instance:ab GTask:=⟨fun x=>ab.sm x.f0∧ab.sm x.f1∧ab.sm x.f4⟩
instance:Wf GTask:=⟨fun x=>Wf.wf x.f0∧Wf.wf x.f1∧Wf.wf x.f4⟩
structure GDag where
 f0:Zz
 f1:Zz
 f2:Int
 f3:Int
 f4:Bool
 f5:List GTask
def Wc (k q:Kd)(x:GDag):List (T Unit):=[tS x.f0,tS x.f1,tI x.f2,tI x.f3,tB x.f4,.s k () 5 (x.f5.map (Wj q))]
instance:ab GDag:=⟨fun x=>ab.sm x.f0∧ab.sm x.f1∧ab.sm x.f5⟩
instance:Wf GDag:=⟨fun x=>Wf.wf x.f0∧Wf.wf x.f1∧Wf.wf x.f5⟩
structure GPlan where
 f0:GDag
 f1:Bool
 f2:Int
 f3:Int
def Wd (k q:Kd)(x:GPlan):List (T Unit):=Wc k q x.f0++[tB x.f1]++[tI x.f2]++[tI x.f3]
instance:ab GPlan:=⟨fun x=>ab.sm x.f0⟩
instance:Wf GPlan:=⟨fun x=>Wf.wf x.f0⟩
structure GSpan where
 f0:Int
 f1:Int
def Wh (x:GSpan):List (T Unit):=[tI x.f0,tI x.f1]
instance:ab GSpan:=⟨fun x=>True⟩
instance:Wf GSpan:=⟨fun x=>True⟩
structure GState where
 f0:Int
 f1:Int
 f2:Int
 f3:Int
def Wi (x:GState):List (T Unit):=[tI x.f0,tI x.f1,tI x.f2,tI x.f3]
instance:ab GState:=⟨fun x=>True⟩
instance:Wf GState:=⟨fun x=>True⟩
structure GRun where
 f0:Zz
 f1:GSpan
 f2:Int
 f3:List GState
def We (k:Kd)(x:GRun):List (T Unit):=[tS x.f0]++Wh x.f1++[tI x.f2]++[.s k () 4 (x.f3.map Wi)]
instance:ab GRun:=⟨fun x=>ab.sm x.f0∧ab.sm x.f1∧ab.sm x.f3⟩
instance:Wf GRun:=⟨fun x=>Wf.wf x.f0∧Wf.wf x.f1∧Wf.wf x.f3⟩
structure GBoard where
 f0:List GSession
 f1:List GPlan
 f2:List GRun
 f3:Int
 f4:Int
def Wa (k q:Kd)(x:GBoard):List (T Unit):=[.s k () 3 (x.f0.map Wg),.s k () 9 (x.f1.map (Wd q q)),.s k () 5 (x.f2.map (We q)),tI x.f3,tI x.f4]
instance:ab GBoard:=⟨fun x=>ab.sm x.f0∧ab.sm x.f1∧ab.sm x.f2⟩
instance:Wf GBoard:=⟨fun x=>Wf.wf x.f0∧Wf.wf x.f1∧Wf.wf x.f2⟩
structure LDag where
 f0:Zz
 f1:Zz
 f2:Int
 f3:Int
 f4:Bool
 f5:List GTask
def Wl (k q:Kd)(x:LDag):List (T Unit):=[tS x.f0,tS x.f1,tI x.f2,tI x.f3,tB x.f4,.s k () 5 (x.f5.map (Wj q))]
instance:ab LDag:=⟨fun x=>ab.sm x.f0∧ab.sm x.f1∧ab.sm x.f5⟩
instance:Wf LDag:=⟨fun x=>Wf.wf x.f0∧Wf.wf x.f1∧Wf.wf x.f5⟩
structure LPlan where
 f0:LDag
 f1:Bool
 f2:Int
 f3:Int
def Wm (k q:Kd)(x:LPlan):List (T Unit):=Wl k q x.f0++[tB x.f1]++[tI x.f2]++[tI x.f3]
instance:ab LPlan:=⟨fun x=>ab.sm x.f0⟩
instance:Wf LPlan:=⟨fun x=>Wf.wf x.f0⟩
structure LRun where
 f0:Zz
 f1:GSpan
 f2:Int
 f3:List GState
def Wn (k:Kd)(x:LRun):List (T Unit):=[tS x.f0]++Wh x.f1++[tI x.f2]++[.s k () 4 (x.f3.map Wi)]
instance:ab LRun:=⟨fun x=>ab.sm x.f0∧ab.sm x.f1∧ab.sm x.f3⟩
instance:Wf LRun:=⟨fun x=>Wf.wf x.f0∧Wf.wf x.f1∧Wf.wf x.f3⟩
structure LBoard where
 f0:List GSession
 f1:List LPlan
 f2:List LRun
 f3:Int
 f4:Int
def Wk (k q:Kd)(x:LBoard):List (T Unit):=[.s k () 3 (x.f0.map Wg),.s k () 9 (x.f1.map (Wm q q)),.s k () 5 (x.f2.map (Wn q)),tI x.f3,tI x.f4]
instance:ab LBoard:=⟨fun x=>ab.sm x.f0∧ab.sm x.f1∧ab.sm x.f2⟩
instance:Wf LBoard:=⟨fun x=>Wf.wf x.f0∧Wf.wf x.f1∧Wf.wf x.f2⟩
def eX (s a:Zz):List Zz:=Lib.splitB a 0 (Lib.countB s a) s
def bq (xs:List Zz)(a:Zz):Zz:=⟨(Lib.join (xs.map (·.data.toList)) a.data.toList).toArray⟩
def bI (n:Int):Zz:=⟨(Lib.itoa n).toArray⟩
def aV (s a:Zz):Zz×Zz×Bool:=(⟨(Lib.cut s.data.toList a.data.toList).1.toArray⟩,⟨(Lib.cut s.data.toList a.data.toList).2.1.toArray⟩,(Lib.cut s.data.toList a.data.toList).2.2)
def ch (s p:Zz):Zz×Bool:=(⟨(Lib.trimPrefix s.data.toList p.data.toList).toArray⟩,Lib.hasPrefix s.data.toList p.data.toList)
noncomputable def dj (l:List Int):List Int:=l.mergeSort fun x y=>decide (x≤y)
noncomputable def kM (l:List Int):List Int:=Lib.compact l
theorem mH (a b:Zz)(c:a.size<4294967281)(d:1≤b.size):Does E 163 [Wt a,Wt b] [(false,[Ww 1 ((eX a b).map etS)])]:=by
 refine Does.orc ⟨0,fun k _=>?_⟩;have o:∀C us,E.orc C 163 us=FS us:=fun _ _=>rfl
 refine(o _ _).trans ?_;show(if _ then _ else _)=_;rw[Wz ⟨c,d⟩];rfl
theorem fy (a b:Zz)(c:a.size<4294967281):Does E 176 [Wt a,Wt b] [Wq (aV a b).1,Wq (aV a b).2.1,Wp (aV a b).2.2]:=by
 refine Does.orc ⟨0,fun k _=>?_⟩;have o:∀C us,E.orc C 176 us=Pf us:=fun _ _=>rfl
 refine(o _ _).trans ?_;show(if _ then _ else _)=_;rw[Wz c];rfl
theorem cb (a b:Zz)  : Does E 174 [Wt a,Wt b] [Wq (ch a b).1,Wp (ch a b).2]:=by
 refine Does.orc ⟨0,fun k _=>?_⟩;have o:∀C us,E.orc C 174 us=t7 us:=fun _ _=>rfl
 refine(o _ _).trans ?_;rfl
theorem F8 (a:Int)(h : -9223372036854775808≤a∧a≤9223372036854775807):Does E 168 [Wr a] [Wq (bI a)]:=by
 refine Does.orc ⟨0,fun k _=>?_⟩;have o:∀C us,E.orc C 168 us=JZ us:=fun _ _=>rfl
 refine(o _ _).trans ?_;show(if _ then _ else _)=_;rw[Wz h];rfl
theorem jD (a:List Zz)(b:Zz)(h:a.length≤140737488355328∧(bq a b).size≤140737488355328):Does E 156 [.one (Wx 1 (a.map etS)),Wt b] [Wq (bq a b)]:=by
 refine Does.orc ⟨0,fun k _=>?_⟩;have o:∀C us,E.orc C 156 us=J0 us:=fun _ _=>rfl
 refine(o _ _).trans ?_;show(vp _).bind _=_;rw[FV,Wy,Wz ⟨h.1,h.2⟩];rfl
theorem ow (a:List Int)(h:a.length<4611686018427387904):Does E 105 [.one (Ww 1 (a.map etI))] [(false,[Ww 1 ((dj a).map etI)])]:=by
 refine Does.orc ⟨0,fun k _=>?_⟩;have o:∀C us,E.orc C 105 us=J4 us:=fun _ _=>rfl
 refine(o _ _).trans ?_;show(na _).bind _=_;rw[ug,Wy,Wz h];rfl
theorem yO (a:List Int)(h:a.length≤9223372036854775807):Does E 167 [.one (Ww 1 (a.map etI))] [(false,[.any]),(false,[Ww 1 ((kM a).map etI)])]:=by
 refine Does.orc ⟨0,fun k _=>?_⟩;have o:∀C us,E.orc C 167 us=yT us:=fun _ _=>rfl
 refine(o _ _).trans ?_;show(na _).bind _=_;rw[ug,Wy,Wz h];rfl
theorem CD (a:List Int)  : Does E 166 [.one (Ww 1 (a.map etI))] [(false,[.any]),(false,[Ww 1 ((id a).map etI)])]:=by
 refine Does.orc ⟨0,fun k _=>?_⟩;have o:∀C us,E.orc C 166 us=JW us:=fun _ _=>rfl
 refine(o _ _).trans ?_;show(na _).bind _=_;rw[ug,Wy];rfl
def ak (x a b:Int):Bool:=decide (x≥a)&&decide (x≤b)
theorem Nr {α:Type}{l:List α}{k:Int}(h:ak k 0 (IntKind.wrap .i64 ((l.length:Int)-1))=true)(a:l.length≤1050000):0≤k∧k<(l.length:Int):=by unfold ak at h;rw[dR _ (by omega) (by omega)]at h;simp only[W0,Xv]at h;omega
theorem eK {α:Type}{l:List α}{k:Int}(h:0≤k∧k<(l.length:Int)):∃x,ar l k=some x∧x∈l:=by unfold ar;rw[Wz h.1,WE (by omega)];exact⟨_,rfl,XW _⟩
theorem UG {α:Type}[ab α]{l:List α}{n:Nat}{x:α}(h:ab.sm l)(a:ab.sm x):ab.sm (l.set n x):=
 ⟨by rw[Yj];exact h.1,fun y b=>by rcases XC b with c|rfl;exact h.2 _ c;exact a⟩
noncomputable def B9 (a b c:Int):Option (Bool):=cond (decide (a≥b)) (some (decide (a≤c))) (some (false))
theorem Sm (a b c:Int):Ans (B9 a b c) (fun r=>Does E 39 [Wr a,Wr b,Wr c] [Wp r]):=by
 unfold B9;apply V4<;>intro d
 ·exact VZ (DP Tryz.f39 [.b true] (AC d<|AN))
 ·exact VZ (DP Tryz.f39 [.b false] (AC d<|AN))
theorem am (a:Int)(b:Int)(c:Int):Does E 39 [Wr a,Wr b,Wr c] [Wp (ak a b c)]:=by exact Sm a b c _ (by unfold B9 ak;cases decide (a≥b)<;>rfl)
noncomputable def wU (a b c:Int):Option (Bool):=cond (decide (a≥b)) (some (decide (a≤c))) (some (false))
theorem Nl (a b c:Int):Ans (wU a b c) (fun r=>Does E 99 [Wr a,Wr b,Wr c] [Wp r]):=by
 unfold wU;apply V4<;>intro d
 ·exact VZ (DP Tryz.f99 [.b true] (AC d<|AN))
 ·exact VZ (DP Tryz.f99 [.b false] (AC d<|AN))
theorem aG (a:Int)(b:Int)(c:Int):Does E 99 [Wr a,Wr b,Wr c] [Wp (ak a b c)]:=by exact Nl a b c _ (by unfold wU ak;cases decide (a≥b)<;>rfl)
noncomputable def ml (a:Int):Option (Int):=cond (decide (a<(10:Int))) (some (IntKind.wrap .u8 (IntKind.wrap .i64 ((48:Int)+a)))) (some (IntKind.wrap .u8 (IntKind.wrap .i64 ((IntKind.wrap .i64 ((97:Int)+a))-(10:Int)))))
theorem Js (a:Int):Ans (ml a) (fun r=>Does E 149 [Wr a] [(false,[tY r])]):=by
 unfold ml;apply V4<;>intro b
 ·exact VZ (DP Tryz.f149 [.b true] (AC b<|AN))
 ·exact VZ (DP Tryz.f149 [.b false] (AC b<|AN))
theorem TK {x:Int}(a:0≤x)(b:x<256):IntKind.wrap .u8 x=x:=by simp only[IntKind.wrap,IntKind.bits,IntKind.signed];simp;omega
noncomputable def dD (x:Int):Int:=(ml x).getD 0
theorem KH (d:Nat)(h:d<10):dD (d:Int)=48+(d:Int):=by unfold dD ml;rw[WJ (by omega),WK,YA,dR _ (by omega) (by omega),TK (by omega) (by omega)]
theorem zU (a:Int):Does E 149 [Wr a] [(false,[tY (dD a)])]:=by exact Js a _ (by unfold dD ml;cases decide (a<10)<;>rfl)
noncomputable def wQ (a:Int):Option (Zz):=if -9223372036854775808≤a∧a≤9223372036854775807 then some (bI a)else none
theorem Nd (a:Int):Ans (wQ a) (fun r=>Does E 155 [Wr a] [Wq r]):=by unfold wQ;apply V6;intro b;exact VZ (DP Tryz.f155 [.ret [Wq (bI a)]] (AD (F8 a b)<|AN))
theorem wD (a:Int)(h : -9223372036854775808≤a∧a≤9223372036854775807):Does E 155 [Wr a] [Wq (bI a)]:=by exact Nd a _ (by unfold wQ;rw[Wz h])
inductive B3 where|x0 (v4:Zz)
def ln (v0:Int)(v3:Bool)(v4:Zz):US:=stL 30 [(0,Wr v0),(3,Ws v3),(4,Wt v4)]
def nY (v3:Bool)(a:Zz):US:=stL 30 [(3,Ws v3),(4,Wt a)]
abbrev vi:US→Exit→US→Prop:=Round E 130 (aq Tryz.f130 0)
def LU (v0:Int)(v3:Bool)(v4:Zz):B3→Prop| .x0 a=>Loops E 130 (aq Tryz.f130 0) (ln v0 v3 v4) (.exit 0) (nY v3 a)
noncomputable def iE  : Nat→Int→Bool→Zz→Option B3| 0,_,_,_=>none|n+1,v0,v3,v4=>cond (v0 != 0) (cond (decide ((Int.tmod v0 (10:Int))<(0:Int))) (if(strOfNums ([dD (IntKind.wrap .i64 (0-(Int.tmod v0 10)))])).size+v4.size≤maxStr then iE n (IntKind.wrap .i64 (Int.tdiv v0 10)) v3 ((strOfNums ([dD (IntKind.wrap .i64 (0-(Int.tmod v0 10)))]))++v4)else none) (if(strOfNums ([dD (Int.tmod v0 10)])).size+v4.size≤maxStr then iE n (IntKind.wrap .i64 (Int.tdiv v0 10)) v3 ((strOfNums ([dD (Int.tmod v0 10)]))++v4)else none)) (some (.x0 v4))
abbrev af (v0:Int):=IntKind.wrap .i64 (0-(Int.tmod v0 10))
noncomputable abbrev bk (v0:Int):=strOfNums ([dD (Int.tmod v0 10)])
abbrev b6 (v0:Int):=IntKind.wrap .i64 (Int.tdiv v0 10)
noncomputable abbrev b7 (v0:Int):=strOfNums ([dD (af v0)])
theorem B2  (n:Nat):∀(v0:Int)(v3:Bool)(v4:Zz),Ans (iE n v0 v3 v4) (LU v0 v3 v4):=by
 induction n with
 |zero=>intros;exact Ans.none
 |succ n d =>
  intro v0 v3 v4;unfold iE;apply V4<;>intro a
  ·apply V4<;>intro e
   ·apply V6;intro b;have r:vi (ln v0 v3 v4) .normal (ln (b6 v0) v3 ((b7 v0)++v4)):=RP [.b true,.no,.b true,.ret [(false,[tY (dD (af v0))])],.val (.string (b7 v0)),.val (.string ((b7 v0)++v4))] (AC a<|AC e<|AD (zU (af v0))<|AC (p:=(ey (((([dD (af v0)]).map etY).drop 0).take (([dD (af v0)]).map etY).length)).map strOfNums=some (b7 v0)) (by simp only[Xb,W9];exact Mw)<|AC (ji (tab:=E.tab) (t:=9) b)<|AN);exact(d (b6 v0) v3 ((b7 v0)++v4)).mono fun y c=>by cases y<;>exact V2 r c
   ·apply V6;intro b;have r:vi (ln v0 v3 v4) .normal (ln (b6 v0) v3 ((bk v0)++v4)):=RP [.b true,.no,.b false,.ret [(false,[tY (dD (Int.tmod v0 10))])],.val (.string (bk v0)),.val (.string ((bk v0)++v4))] (AC a<|AC e<|AD (zU (Int.tmod v0 10))<|AC (p:=(ey (((([dD (Int.tmod v0 10)]).map etY).drop 0).take (([dD (Int.tmod v0 10)]).map etY).length)).map strOfNums=some (bk v0)) (by simp only[Xb,W9];exact Mw)<|AC (ji (tab:=E.tab) (t:=9) b)<|AN);exact(d (b6 v0) v3 ((bk v0)++v4)).mono fun y c=>by cases y<;>exact V2 r c
  ·exact VZ (V3 (show vi (ln v0 v3 v4) (.exit 0) (nY v3 v4)from RP [.b false] (AC a<|AN)))
noncomputable def sG (b:Int):Option (Zz):=
  cond (b==(0:Int))
   (some ((⟨#[48]⟩:Zz)))
   (cond (decide (b<(0:Int)))
    ((iE 9223372036854775808 b true ByteArray.empty).bind fun y=>match y with
     | .x0 a=>(if(⟨#[45]⟩:Zz).size+a.size≤maxStr then some ((⟨#[45]⟩:Zz)++a)else none))
    ((iE 9223372036854775808 b false ByteArray.empty).bind fun y=>match y with
     | .x0 a=>(some (a))))
theorem NU (x0:Int):Ans (sG x0) (fun r=>Does E 130 [Wr x0] [Wq r]):=by
 unfold sG;apply V4<;>intro c
 ·exact VZ (DP Tryz.f130 [.b true] (AC c<|AN))
 ·apply V4<;>intro e
  ·apply V5;intro y b;replace b:=B2 9223372036854775808 x0 true ByteArray.empty y b;cases y with
   |x0 a =>have d:=b;apply V6;intro f;exact VZ (DP Tryz.f130 [.b false,.b true,.lp (.exit 0) (nY true a),.val (.string ((⟨#[45]⟩:Zz)++a))] (AC c<|AC e<|AL d<|AC (ji (tab:=E.tab) (t:=9) f)<|AN))
  ·apply V5;intro y b;replace b:=B2 9223372036854775808 x0 false ByteArray.empty y b;cases y with
   |x0 a =>have d:=b;exact VZ (DP Tryz.f130 [.b false,.b false,.lp (.exit 0) (nY false a)] (AC c<|AC e<|AL d<|AN))
theorem FB (d:Nat)(h:d<10):strOfNums [dD (d:Int)]=ofTx [UInt8.ofNat (48+d)]:=by
 rw[KH d h];unfold strOfNums ofTx;have:(48+(d:Int)).toNat=48+d:=by omega
 simp[this]
def A1 (u:Nat):List UInt8:=if u=0 then []else Lib.decDigits u
theorem Q9 (u:Nat)(h:0<u):A1 u=A1 (u/10)++[UInt8.ofNat (48+u % 10)]:=by unfold A1;rw[WM (by omega),MV u h]
theorem SR (u:Nat)(h:u<10 ^ 19):(A1 u).length≤19:=by
 unfold A1;split
 ·simp
 ·exact yW 18 u h
theorem HW (b:Bool):∀(n:Nat)(v:Int)(s:List UInt8), -9223372036854775808≤v→v≤9223372036854775807→v.natAbs<10 ^ n→s.length+n≤100→∀m,n<m→iE m v b (ofTx s)=some (.x0 (ofTx (A1 v.natAbs++s)))
 | 0,v,s,_,_,h,_,m,i=>by
  obtain⟨m,rfl⟩:∃k,m=k+1:=⟨m-1,by omega⟩
  have:v=0:=by simpa using h
  subst this;rfl
 |n+1,v,s,o,p,h,hs,m,i=>by
  obtain⟨m,rfl⟩:∃k,m=k+1:=⟨m-1,by omega⟩
  unfold iE;by_cases z:v=0
  ·subst z;rfl
  ·have hz:(v != 0)=true:=by simpa using z
   rw[hz,WK];have a:0<v.natAbs:=by omega
   have hd:v.natAbs % 10<10:=Nat.mod_lt _ (by omega);have f:(Int.tdiv v 10).natAbs=v.natAbs/10:=by rw[Int.natAbs_tdiv];rfl
   have g:IntKind.wrap .i64 (Int.tdiv v 10)=Int.tdiv v 10:=dR _ (by omega) (by omega);have j:(Int.tmod v 10).natAbs=v.natAbs % 10:=by rw[Int.natAbs_tmod];rfl
   have d:=HW b n (Int.tdiv v 10) ([UInt8.ofNat (48+v.natAbs % 10)]++s) (by omega) (by omega) (by rw[f];rw[Nat.pow_succ]at h;omega) (by simp;omega) m (by omega);rw[f, ←XU, ←Q9 _ a]at d;have sz:∀l:List UInt8,(ofTx l).size=l.length:=fun l=>dQ _
   by_cases c:Int.tmod v 10<0
   ·have e:IntKind.wrap .i64 (0-Int.tmod v 10)=((v.natAbs % 10:Nat):Int):=by rw[dR _ (by omega) (by omega)];omega
    rw[WJ c,WK,e,FB _ hd,Wz (by rw[sz,sz];simp[maxStr];omega),g,rR];exact d
   ·have e:Int.tmod v 10=((v.natAbs % 10:Nat):Int):=by omega
    rw[WH c,WO,e,FB _ hd,Wz (by rw[sz,sz];simp[maxStr];omega),g,rR];exact d
theorem Q8 (x:Int)(h : -9223372036854775808≤x∧x≤9223372036854775807):sG x=some (bI x):=by
 unfold sG bI Lib.itoa;by_cases z:x=0
 ·subst z;show some _=some _;rw[WM (by omega),Lib.decDigits,dif_pos (by simp)];rfl
 ·have hz:(x==0)=false:=by simpa using z
  have hb:x.natAbs<10 ^ 19:=by have:(10:Nat) ^ 19=10000000000000000000:=rfl;omega
  have a:=fun b=>HW b 19 x [] h.1 h.2 hb (by simp) 9223372036854775808 (by omega)
  have d:ofTx []=ByteArray.empty:=rfl;rw[d]at a;have g:=SR _ hb;rw[hz,WO,a,a];simp only[WX,Wy];have sz:∀l:List UInt8,(ofTx l).size=l.length:=fun l=>dQ _
  have hd:A1 x.natAbs=Lib.decDigits x.natAbs:=by unfold A1;rw[WM (by omega)]
  by_cases c:x<0
  ·have e:(⟨#[45]⟩:Zz)=ofTx [45]:=rfl;rw[WJ c,WK,Wz c,e,Wz (by rw[sz,sz];simp[maxStr];omega),rR,hd];rfl
  ·have f:x.natAbs=x.toNat:=by omega
   rw[WH c,WO,WM c,hd,f];rfl
theorem sj (a:Int)(h : -9223372036854775808≤a∧a≤9223372036854775807):Does E 130 [Wr a] [Wq (bI a)]:=by exact NU a _ (Q8 a h)
inductive B8 where|ret (v2:List Zz) (v3:Bool)|x0 (v4:List Zz)
def cG (v0:Zz)(v4:List Zz)(v5 v6:Int):US:=stL 62 [(0,Wt v0),(4,.one (Ww 1 (v4.map etS))),(5,Wr v5),(6,Wr v6)]
def mP (a:List Zz)(b:Bool):US:=stL 62 [(2,.one (Ww 1 (a.map etS))),(3,Ws b)]
def oc (a:List Zz):US:=stL 62 [(4,.one (Ww 1 (a.map etS)))]
abbrev iJ:US→Exit→US→Prop:=Round E 109 (aq Tryz.f109 0)
def L2 (v0:Zz)(v4:List Zz)(v5 v6:Int):B8→Prop| .ret a b=>Loops E 109 (aq Tryz.f109 0) (cG v0 v4 v5 v6) .ret (mP a b)| .x0 c=>Loops E 109 (aq Tryz.f109 0) (cG v0 v4 v5 v6) (.exit 0) (oc c)
noncomputable def dI (v0:Zz):Nat→(List Zz)→Int→Int→Option B8| 0,_,_,_=>none|n+1,v4,v5,v6=>cond (decide (v6≤(v0.size:Int))) (cond (decide (v6<(v0.size:Int))) (if 0≤v6∧v6<(v0.size:Int)then cond (decide ((jl v0 v6)<(32:Int))) (some (.ret ([]) false)) (cond (decide ((jl v0 v6)>(126:Int))) (some (.ret ([]) false)) (cond ((jl v0 v6) != 32) (dI v0 n v4 v5 (inc v6)) (cond (decide (v5<v6)) (if 0≤v5∧v5≤v6∧v6≤(v0.size:Int)then if(v4.length+([v0.extract v5.toNat v6.toNat]).length)*16≤140737488355328∧v4.length+([v0.extract v5.toNat v6.toNat]).length≤4611686018427387904 then dI v0 n (v4++([v0.extract v5.toNat v6.toNat])) (inc v6) (inc v6)else none else none) (dI v0 n v4 (inc v6) (inc v6)))))else none) (cond (decide (v5<v6)) (if 0≤v5∧v5≤v6∧v6≤(v0.size:Int)then if(v4.length+([v0.extract v5.toNat v6.toNat]).length)*16≤140737488355328∧v4.length+([v0.extract v5.toNat v6.toNat]).length≤4611686018427387904 then dI v0 n (v4++([v0.extract v5.toNat v6.toNat])) (inc v6) (inc v6)else none else none) (dI v0 n v4 (inc v6) (inc v6)))) (some (.x0 v4))
abbrev a6 (v4:List Zz)(v0:Zz)(v5 v6:Int):=v4++([v0.extract v5.toNat v6.toNat])
theorem L1 (v0:Zz)(n:Nat):∀(v4:List Zz)(v5 v6:Int),Ans (dI v0 n v4 v5 v6) (L2 v0 v4 v5 v6):=by
 induction n with
 |zero=>intros;exact Ans.none
 |succ n g =>
  intro v4 v5 v6;unfold dI;apply V4<;>intro d
  ·apply V4<;>intro b
   ·apply V6;intro a;apply V4<;>intro e
    ·exact VZ (V3 (show iJ (cG v0 v4 v5 v6) .ret (mP ([]) false)from RP [.b true,.b true,.b true] (AC d<|AC b<|AC a<|AC e<|AN)))
    ·apply V4<;>intro f
     ·exact VZ (V3 (show iJ (cG v0 v4 v5 v6) .ret (mP ([]) false)from RP [.b true,.b true,.b false,.b true] (AC d<|AC b<|AC a<|AC e<|AC a<|AC f<|AN)))
     ·apply V4<;>intro h
      ·have r:iJ (cG v0 v4 v5 v6) .normal (cG v0 v4 v5 (inc v6)):=RP [.b true,.b true,.b false,.b false,.b true,.b true] (AC d<|AC b<|AC a<|AC e<|AC a<|AC f<|AC b<|AC a<|AC h<|AN);exact(g v4 v5 (inc v6)).mono fun y c=>by cases y<;>exact V2 r c
      ·apply V4<;>intro i
       ·apply V6;intro j;apply V6;intro k;have r:iJ (cG v0 v4 v5 v6) .normal (cG v0 (a6 v4 v0 v5 v6) (inc v6) (inc v6)):=RP [.b true,.b true,.b false,.b false,.b true,.b false,.b true,.rows ((a6 v4 v0 v5 v6).map etS)] (AC d<|AC b<|AC a<|AC e<|AC a<|AC f<|AC b<|AC a<|AC h<|AC i<|AC j<|AAp etS (fun _=>rfl) k<|AN);exact(g (a6 v4 v0 v5 v6) (inc v6) (inc v6)).mono fun y c=>by cases y<;>exact V2 r c
       ·have r:iJ (cG v0 v4 v5 v6) .normal (cG v0 v4 (inc v6) (inc v6)):=RP [.b true,.b true,.b false,.b false,.b true,.b false,.b false] (AC d<|AC b<|AC a<|AC e<|AC a<|AC f<|AC b<|AC a<|AC h<|AC i<|AN);exact(g v4 (inc v6) (inc v6)).mono fun y c=>by cases y<;>exact V2 r c
   ·apply V4<;>intro a
    ·apply V6;intro e;apply V6;intro f;have r:iJ (cG v0 v4 v5 v6) .normal (cG v0 (a6 v4 v0 v5 v6) (inc v6) (inc v6)):=RP [.b true,.b false,.b false,.b true,.rows ((a6 v4 v0 v5 v6).map etS)] (AC d<|AC b<|AC b<|AC a<|AC e<|AAp etS (fun _=>rfl) f<|AN);exact(g (a6 v4 v0 v5 v6) (inc v6) (inc v6)).mono fun y c=>by cases y<;>exact V2 r c
    ·have r:iJ (cG v0 v4 v5 v6) .normal (cG v0 v4 (inc v6) (inc v6)):=RP [.b true,.b false,.b false,.b false] (AC d<|AC b<|AC b<|AC a<|AN);exact(g v4 (inc v6) (inc v6)).mono fun y c=>by cases y<;>exact V2 r c
  ·exact VZ (V3 (show iJ (cG v0 v4 v5 v6) (.exit 0) (oc v4)from RP [.b false] (AC d<|AN)))
noncomputable def sH (d:Zz):Option ((List Zz)×Bool):=
  cond (decide ((d.size:Int)>(600:Int)))
   (some (([]:List Zz),false))
   ((dI d 9223372036854775808 ([]) 0 0).bind fun y=>match y with
    | .ret b c=>(some (b,c))
    | .x0 a=>(cond (decide ((a.length:Int)>(10:Int)))
     (some (([]:List Zz),false))
     (some (a,true))))
theorem NY (x0:Zz):Ans (sH x0) (fun r=>Does E 109 [Wt x0] [(false,[Ww 1 (r.1.map etS)]),Wp r.2]):=by
 unfold sH;apply V4<;>intro d
 ·exact VZ (DP Tryz.f109 [.b true] (AC d<|AN))
 ·apply V5;intro y e;replace e:=L1 x0 9223372036854775808 ([]) 0 0 y e;cases y with
  |ret b c =>have f:=e;exact VZ (DP Tryz.f109 [.b false,.lp .ret (mP b c)] (AC d<|AL f<|AN))
  |x0 a =>
   have f:=e;apply V4<;>intro g
   ·exact VZ (DP Tryz.f109 [.b false,.lp (.exit 0) (oc a),Wu (a.length:Int),.b true] (AC d<|AL f<|ALn a etS<|AC g<|AN))
   ·exact VZ (DP Tryz.f109 [.b false,.lp (.exit 0) (oc a),Wu (a.length:Int),.b false] (AC d<|AL f<|ALn a etS<|AC g<|AN))
inductive Bm where|x2 (v5:List Zz)
def lb (v5 v28:List Zz)(a b:Int):US:=stL 45 [(5,.one (Ww 1 (v5.map etS))),(28,.one (Ww 1 (v28.map etS))),(29,Wr a),(30,Wr b)]
def nG (a:List Zz):US:=stL 45 [(5,.one (Ww 1 (a.map etS)))]
abbrev uS:US→Exit→US→Prop:=Round E 150 (aq Tryz.f150 1)
def KV (v5 v28:List Zz)(a b:Int):Bm→Prop| .x2 c=>Loops E 150 (aq Tryz.f150 1) (lb v5 v28 a b) (.exit 2) (nG c)
noncomputable def gr  : List Zz→Nat→(List Zz)→Option Bm|[],i,v5=>some (.x2 v5)|hd::rest,i,v5=>cond (!(hd.toList==ByteArray.empty.toList)) (if(v5.length+([hd]).length)*16≤140737488355328∧v5.length+([hd]).length≤4611686018427387904 then gr rest (i+1) (v5++([hd]))else none) (gr rest (i+1) v5)
theorem KT (v28:List Zz)(rest:List Zz):∀(i:Nat)(v5:List Zz),(v28).drop i=rest→v28.length≤9223372036854775807→Ans (gr rest i v5) (KV v5 v28 (v28.length:Int) (i:Int)):=by
 induction rest with
 |nil =>intro i v5 a c;have hb:=aP a;unfold gr;exact VZ (V3 (show uS (lb v5 v28 (v28.length:Int) (i:Int)) (.exit 2) (nG v5)from RP [.b false] (AC hb<|AN)))
 |cons hd rest e =>
  intro i v5 a c;have hb:=aI a;have f:=aJ a c;have b:=az a;have g:=aK a;unfold gr;apply V4<;>intro h
  ·apply V6;intro j;exact(e (i+1) (v5++([hd])) b c).mono fun y d=>by have r:uS (lb v5 v28 (v28.length:Int) (i:Int)) .normal (lb (v5++([hd])) v28 (v28.length:Int) (inc (i:Int))):=RP [.b true,.row (etS hd),.b true,.rows ((v5++([hd])).map etS)] (AC hb<|AG etS g<|AC h<|AAp etS (fun _=>rfl) j<|AN);rw[f]at r;cases y<;>exact V2 r d
  ·exact(e (i+1) v5 b c).mono fun y d=>by have r:uS (lb v5 v28 (v28.length:Int) (i:Int)) .normal (lb v5 v28 (v28.length:Int) (inc (i:Int))):=RP [.b true,.row (etS hd),.b false] (AC hb<|AG etS g<|AC h<|AN);rw[f]at r;cases y<;>exact V2 r d
inductive Bl where|ret (v2:List Zz) (v3:Bool)|x0
def jR (v0:Zz)(v4:Int):US:=stL 45 [(0,Wt v0),(4,Wr v4)]
def mI (a:List Zz)(b:Bool):US:=stL 45 [(2,.one (Ww 1 (a.map etS))),(3,Ws b)]
def nF (v0:Zz):US:=stL 45 [(0,Wt v0)]
abbrev qC:US→Exit→US→Prop:=Round E 150 (aq Tryz.f150 0)
def KU (v0:Zz)(v4:Int):Bl→Prop| .ret a b=>Loops E 150 (aq Tryz.f150 0) (jR v0 v4) .ret (mI a b)| .x0=>Loops E 150 (aq Tryz.f150 0) (jR v0 v4) (.exit 0) (nF v0)
noncomputable def jS  : List Int→Nat→Option Bl|[],i=>some (.x0)|hd::rest,i=>cond (decide (hd<(32:Int))) (some (.ret ([]) false)) (cond (decide (hd>(126:Int))) (some (.ret ([]) false)) (jS rest (i+1)))
theorem KS (v0:Zz)(rest:List Int):∀(i:Nat) ,(cw v0).drop i=rest→v0.size≤9223372036854775807→Ans (jS rest i) (KU v0 (i:Int)):=by
 induction rest with
 |nil =>intro i a c;have hb:=uP a;unfold jS;exact VZ (V3 (show qC (jR v0 (i:Int)) (.exit 0) (nF v0)from RP [.b false] (AC hb<|AN)))
 |cons hd rest g =>
  intro i a c;have hb:=sS a;have h:=sT a c;have d:=az a;have b:=xQ a;obtain rfl:=xP a;unfold jS;apply V4<;>intro e
  ·exact VZ (V3 (show qC (jR v0 (i:Int)) .ret (mI ([]) false)from RP [.b true,.b true] (AC hb<|AC b<|AC e<|AN)))
  ·apply V4<;>intro f
   ·exact VZ (V3 (show qC (jR v0 (i:Int)) .ret (mI ([]) false)from RP [.b true,.b false,.b true] (AC hb<|AC b<|AC e<|AC b<|AC f<|AN)))
   ·exact(g (i+1) d c).mono fun y j=>by have r:qC (jR v0 (i:Int)) .normal (jR v0 (inc (i:Int))):=RP [.b true,.b false,.b false] (AC hb<|AC b<|AC e<|AC b<|AC f<|AN);rw[h]at r;cases y<;>exact V2 r j
noncomputable def su (b:Zz):Option ((List Zz)×Bool):=
  cond (decide ((b.size:Int)>(600:Int)))
   (some (([]:List Zz),false))
   (if b.size≤9223372036854775807 then(jS (cw b) 0).bind fun y=>match y with
    | .ret c d=>(some (c,d))
    | .x0=>(if b.size<4294967281 then if 1≤(⟨#[32]⟩:Zz).size then if(eX b (⟨#[32]⟩:Zz)).length≤9223372036854775807 then(gr (eX b (⟨#[32]⟩:Zz)) 0 ([])).bind fun y=>match y with
     | .x2 a=>(cond (decide ((a.length:Int)>(10:Int)))
      (some (([]:List Zz),false))
      (some (a,true)))else none else none else none)else none)
theorem Nh (x0:Zz):Ans (su x0) (fun r=>Does E 150 [Wt x0] [(false,[Ww 1 (r.1.map etS)]),Wp r.2]):=by
 unfold su;apply V4<;>intro e
 ·exact VZ (DP Tryz.f150 [.b true] (AC e<|AN))
 ·apply V6;intro g;apply V5;intro y b;replace b:=KS x0 (cw x0) 0 rfl g y b;cases y with
  |ret c d =>have f:=b;exact VZ (DP Tryz.f150 [.b false,.lp .ret (mI c d)] (AC e<|AL f<|AN))
  |x0 =>
   have f:=b;apply V6;intro i;apply V6;intro j;apply V6;intro h;apply V5;intro y b;replace b:=KT (eX x0 (⟨#[32]⟩:Zz)) (eX x0 (⟨#[32]⟩:Zz)) 0 ([]) rfl h y b;cases y with
   |x2 a =>
    have k:=b;apply V4<;>intro l
    ·exact VZ (DP Tryz.f150 [.b false,.lp (.exit 0) (nF x0),.ret [(false,[Ww 1 ((eX x0 (⟨#[32]⟩:Zz)).map etS)])],Wu ((eX x0 (⟨#[32]⟩:Zz)).length:Int),.lp (.exit 2) (nG a),Wu (a.length:Int),.b true] (AC e<|AL f<|AD (mH x0 (⟨#[32]⟩:Zz) i j)<|ALn (eX x0 (⟨#[32]⟩:Zz)) etS<|AL k<|ALn a etS<|AC l<|AN))
    ·exact VZ (DP Tryz.f150 [.b false,.lp (.exit 0) (nF x0),.ret [(false,[Ww 1 ((eX x0 (⟨#[32]⟩:Zz)).map etS)])],Wu ((eX x0 (⟨#[32]⟩:Zz)).length:Int),.lp (.exit 2) (nG a),Wu (a.length:Int),.b false] (AC e<|AL f<|AD (mH x0 (⟨#[32]⟩:Zz) i j)<|ALn (eX x0 (⟨#[32]⟩:Zz)) etS<|AL k<|ALn a etS<|AC l<|AN))
def okB (b:UInt8):Bool:=decide (32≤b.toNat)&&decide (b.toNat≤126)
theorem RW {b:UInt8}(h:b.toNat<32):okB b=false:=by unfold okB;rw[WH (by omega)];rfl
theorem RU {b:UInt8}(h:126<b.toNat):okB b=false:=by unfold okB;rw[WH (by omega:¬b.toNat≤126),Yt]
theorem RV {b:UInt8}(h:¬b.toNat<32)(a:¬ 126<b.toNat):okB b=true:=by unfold okB;rw[WJ (by omega),WJ (by omega)];rfl
def aL (x:Zz):Bool := !(x.toList==ByteArray.empty.toList)
noncomputable def aX (s:Zz):List Zz×Bool :=if 600<s.size then([],false)else if(tx s).all okB=true then(if 10<(((ci 32 (tx s)).map ofTx).filter aL).length then([],false)else(((ci 32 (tx s)).map ofTx).filter aL,true))else([],false)
theorem KJ (l:List UInt8):aL (ofTx l)= !l.isEmpty:=by unfold aL;rw[me];have:tx ByteArray.empty=[]:=rfl;rw[this,yJ];cases l<;>rfl
theorem FR (s:Zz)(c:UInt8):eX s ⟨#[c]⟩=(ci c (tx s)).map ofTx:=Oi s c
theorem uu (s:Zz):cw s=(tx s).map fun b=>(b.toNat:Int):=rfl
theorem Km {s:Zz}{i:Nat}{b:UInt8}(h:(tx s)[i]?=some b):jl s (i:Int)=(b.toNat:Int):=by
 have hi:i<s.size:=by
  rw[dQ];rcases WI i (tx s).length with g|g
  ·exact g
  ·rw[WF g]at h;cases h
 have:=xx s i hi;rw[uu,WQ,h]at this;exact(Yn this).symm
theorem R4:∀(l:List UInt8)(i:Nat),jS (l.map fun b=>(b.toNat:Int)) i=some (if l.all okB=true then .x0 else .ret [] false)
 |[],i=>rfl
 |b::l,i=>by
  rw[WT];unfold jS;rw[R4 l (i+1),X9];by_cases h:b.toNat<32
  ·rw[WJ (by omega),RW h];rfl
  ·rw[WH (by omega),WO];by_cases a:126<b.toNat
   ·rw[WJ (by omega),RU a];rfl
   ·rw[WH (by omega),RV h a];rfl
theorem LD:∀(l:List Zz)(i:Nat)(v:List Zz),v.length+l.length≤4000000→gr l i v=some (.x2 (v++l.filter aL))
 |[],i,v,_=>by unfold gr;simp
 |x::l,i,v,h=>by
  simp only[W4]at h;unfold gr;have e:(!(x.toList==ByteArray.empty.toList))=aL x:=rfl;rw[e];cases q:aL x with
  |true =>rw[WK,Wz (by simp;omega),LD l (i+1) _ (by simp;omega),XY,q];simp
  |false =>rw[WO,LD l (i+1) v (by omega),XY,q];simp
theorem R5 (s:Zz):su s=some (aX s):=by
 unfold su aX;by_cases h:600<s.size
 ·rw[WJ (by omega),Wz h];rfl
 ·have a:=DJ 32 (tx s);rw[←dQ]at a;rw[WH (by omega),WM h,WO,Wz (by omega),uu,R4];by_cases q:(tx s).all okB=true
  ·rw[Wz q,Wz q,Wy];simp only;rw[Wz (by omega),Wz (by decide),FR,Wz (by simp;omega),LD _ _ _ (by simp;omega),Wy];simp only[W7];by_cases r:10<(((ci 32 (tx s)).map ofTx).filter aL).length
   ·rw[WJ (by omega),Wz r];rfl
   ·rw[WH (by omega),WM r];rfl
  ·rw[WM q,WM q];rfl
theorem KK {l:List UInt8}{i:Nat}(h:i<l.length):∃b r,l.drop i=b::r∧l[i]?=some b∧l.drop (i+1)=r:=by refine⟨l[i],l.drop (i+1),XQ h,WE h,rfl⟩
theorem R7 (s:Zz)(hs:s.size≤2000000):∀(m i a:Nat)(v:List Zz)(n:Nat),i+m=(tx s).length→m+1<n→a≤i→v.length+m≤2000000 →
  dI s n v (a:Int) (i:Int)=some (if((tx s).drop i).all okB=true then .x0 (v++((j8 (seg (tx s) a i) (ci 32 ((tx s).drop i))).map ofTx).filter aL)else .ret [] false)
 |m,i,a,v,n,hi,A,f,hv=>by
  obtain⟨n,rfl⟩:∃k,n=k+2:=⟨n-2,by omega⟩
  have u:=dQ s;unfold dI;rw[WJ (by omega:(i:Int)≤(s.size:Int)),WK];have c:inc (i:Int)=((i+1:Nat):Int):=by rw[cr _ (by omega) (by omega)];omega
  cases m with
  |zero =>
   have hd:(tx s).drop i=[]:=Xn (by omega);have stop:∀w b,dI s (n+1) w b ((i+1:Nat):Int)=some (.x0 w):=fun w b=>by unfold dI;rw[WH (by omega)];rfl
   have hc:j8 (seg (tx s) a i) (ci 32 ([]:List UInt8))=[seg (tx s) a i]:=by simp[ci,j8]
   have hf:([seg (tx s) a i].map ofTx).filter aL=if a=i then []else [s.extract a i]:=by
    rw[WT,Xc,XY,KJ,OQ f (by omega),oO];by_cases q:a=i
    ·rw[Wz q,WJ q];rfl
    ·rw[WM q,WH q];rfl
   rw[WH (by omega:¬(i:Int)<(s.size:Int)),WO,c,hd,hc,hf,List.all_nil,Wz rfl];by_cases q:a=i
   ·rw[WH (by omega),WO,stop,Wz q,WX]
   ·rw[WJ (by omega),WK,Wz (by omega),Wz (by simp;omega),stop,WM q];rfl
  |succ m =>
   obtain⟨b,r,hd,j,x⟩:=KK (l:=tx s) (i:=i) (by omega);have hb:=Km j;have d:=fun o p (y:o≤i+1) (z:p.length+m≤2000000)=>R7 s hs m (i+1) o p (n+1) (by omega) (by omega) y z
   rw[x]at d;rw[WJ (by omega:(i:Int)<(s.size:Int)),WK,Wz (by omega),hb,c,hd,X9];have bl:=b.toNat_lt;by_cases h:b.toNat<32
   ·rw[WJ (by omega:((b.toNat:Int)<32)),WK,RW h];rfl
   ·rw[WH (by omega:¬((b.toNat:Int)<32)),WO];by_cases t:126<b.toNat
    ·rw[WJ (by omega:((b.toNat:Int)>126)),WK,RU t];rfl
    ·rw[WH (by omega:¬((b.toNat:Int)>126)),WO,RV h t,Xa];by_cases q:b=32
     ·subst q;have e:(((32:UInt8).toNat:Int) != 32)=false:=by decide
      rw[e,WO,uM];have g:j8 (seg (tx s) a i) ([]::ci 32 r)=seg (tx s) a i::ci 32 r:=by simp[j8]
      rw[g,WT,XY,KJ,OQ f (by omega)];have hz:j8 (seg (tx s) (i+1) (i+1)) (ci 32 r)=ci 32 r:=by rw[vo];exact y6 _ (ka _ _)
      by_cases q:a=i
      ·have:=d (i+1) v (by omega) (by omega);rw[hz]at this;rw[WH (by omega),WO,this,WJ q];rfl
      ·have:=d (i+1) (v++[s.extract a i]) (by omega) (by simp;omega);rw[hz]at this;rw[WJ (by omega),WK,Wz (by omega),Wz (by simp;omega)];rw[show((a:Int).toNat)=a by omega,show((i:Int).toNat)=i by omega,this,WH q,oO];simp
     ·have e:((b.toNat:Int) != 32)=true:=by rw[Zy];intro h;exact q (Zw.1 (by show b.toNat=32;omega))
      rw[e,WK,d a v (by omega) (by omega),pY q,H7 _ _ _ (ka _ _), ←Mm f j]
theorem R6 (s:Zz):sH s=some (aX s):=by
 unfold sH aX;by_cases h:600<s.size
 ·rw[WJ (by omega),Wz h];rfl
 ·have hz:j8 (seg (tx s) 0 0) (ci 32 (tx s))=ci 32 (tx s):=by rw[vo];exact y6 _ (ka _ _)
  have e:=R7 s (by omega) (tx s).length 0 0 [] 9223372036854775808 (by omega) (by rw[←dQ];omega) (by omega) (by rw[←dQ];simp;omega);rw[W9,hz,W7]at e;rw[WH (by omega),WM h,WO];refine(WV (Option.bind · _) e).trans ?_;by_cases q:(tx s).all okB=true
  ·rw[Wz q,Wz q,Wy];simp only;by_cases r:10<(((ci 32 (tx s)).map ofTx).filter aL).length
   ·rw[WJ (by omega),Wz r];rfl
   ·rw[WH (by omega),WM r];rfl
  ·rw[WM q,WM q];rfl
theorem xh {s p:Zz}(h:p∈(aX s).1):p.size≤600:=by
 unfold aX at h;split at h
 ·cases h
 ·rename_i b;split at h
  ·split at h
   ·cases h
   ·obtain⟨x,a,rfl⟩:=WU.1 (XV.1 h).1;have:=DK _ _ x a;rw[sV];rw[←dQ]at this;omega
  ·cases h
theorem MP (a:Zz):Does E 109 [Wt a] [(false,[Ww 1 (((aX a).1).map etS)]),Wp ((aX a).2)]:=by exact NY a _ (R6 a)
theorem o5 (a:Zz){c:Bool}(b:(aX a).2=c):Does E 109 [Wt a] [(false,[Ww 1 (((aX a).1).map etS)]),Wp c]:=by rw[←b];exact MP a
theorem MH (a:Zz):Does E 150 [Wt a] [(false,[Ww 1 (((aX a).1).map etS)]),Wp ((aX a).2)]:=by exact Nh a _ (R5 a)
theorem oZ (a:Zz){c:Bool}(b:(aX a).2=c):Does E 150 [Wt a] [(false,[Ww 1 (((aX a).1).map etS)]),Wp c]:=by rw[←b];exact MH a
inductive vj where|ret (v2:Int) (v3:Bool)|x0 (v4:Int)
def fL (v0:Zz)(v4 v5:Int):US:=stL 42 [(0,Wt v0),(4,Wr v4),(5,Wr v5)]
def j7 (a:Int)(b:Bool):US:=stL 42 [(2,Wr a),(3,Ws b)]
def iK (v0:Zz)(a:Int):US:=stL 42 [(0,Wt v0),(4,Wr a)]
abbrev l6:US→Exit→US→Prop:=Round E 148 (aq Tryz.f148 0)
def Eh (v0:Zz)(v4 v5:Int):vj→Prop| .ret a b=>Loops E 148 (aq Tryz.f148 0) (fL v0 v4 v5) .ret (j7 a b)| .x0 c=>Loops E 148 (aq Tryz.f148 0) (fL v0 v4 v5) (.exit 0) (iK v0 c)
noncomputable def fM (v0:Zz):List Int→Nat→Int→Option vj|[],i,v4=>some (.x0 v4)|hd::rest,i,v4=>cond (decide (hd<(48:Int))) (some (.ret 0 false)) (cond (decide (hd>(57:Int))) (some (.ret 0 false)) (fM v0 rest (i+1) (IntKind.wrap .i64 ((IntKind.wrap .i64 ((IntKind.wrap .i64 ((10:Int)*v4))+(IntKind.wrap .i64 hd)))-(48:Int)))))
theorem Eg (v0:Zz)(rest:List Int):∀(i:Nat)(v4:Int),(cw v0).drop i=rest→v0.size≤9223372036854775807→Ans (fM v0 rest i v4) (Eh v0 v4 (i:Int)):=by
 induction rest with
 |nil =>intro i v4 a c;have hb:=uP a;unfold fM;exact VZ (V3 (show l6 (fL v0 v4 (i:Int)) (.exit 0) (iK v0 v4)from RP [.b false] (AC hb<|AN)))
 |cons hd rest g =>
  intro i v4 a c;have hb:=sS a;have h:=sT a c;have d:=az a;have b:=xQ a;obtain rfl:=xP a;unfold fM;apply V4<;>intro e
  ·exact VZ (V3 (show l6 (fL v0 v4 (i:Int)) .ret (j7 0 false)from RP [.b true,.b true] (AC hb<|AC b<|AC e<|AN)))
  ·apply V4<;>intro f
   ·exact VZ (V3 (show l6 (fL v0 v4 (i:Int)) .ret (j7 0 false)from RP [.b true,.b false,.b true] (AC hb<|AC b<|AC e<|AC b<|AC f<|AN)))
   ·exact(g (i+1) (IntKind.wrap .i64 ((IntKind.wrap .i64 ((IntKind.wrap .i64 ((10:Int)*v4))+(IntKind.wrap .i64 (jl v0 (i:Int)))))-(48:Int))) d c).mono fun y j=>by have r:l6 (fL v0 v4 (i:Int)) .normal (fL v0 (IntKind.wrap .i64 ((IntKind.wrap .i64 ((IntKind.wrap .i64 ((10:Int)*v4))+(IntKind.wrap .i64 (jl v0 (i:Int)))))-(48:Int))) (inc (i:Int))):=RP [.b true,.b false,.b false] (AC hb<|AC b<|AC e<|AC b<|AC f<|AC b<|AN);rw[h]at r;cases y<;>exact V2 r j
noncomputable def mQ (b:Zz):Option (Int×Bool):=
  cond (decide ((b.size:Int)>(10:Int)))
   (some (0,false))
   (if b.size≤9223372036854775807 then(fM b (cw b) 0 0).bind fun y=>match y with
    | .ret c d=>(some (c,d))
    | .x0 a=>(cond (decide (a>(1000000000:Int)))
     (some (0,false))
     (if -9223372036854775808≤a∧a≤9223372036854775807 then cond (!((bI a).toList==b.toList))
      (some (0,false))
      (some (a,true))else none))else none)
theorem FN (x0:Zz):Ans (mQ x0) (fun r=>Does E 148 [Wt x0] [Wo r.1,Wp r.2]):=by
 unfold mQ;apply V4<;>intro b
 ·exact VZ (DP Tryz.f148 [.b true] (AC b<|AN))
 ·apply V6;intro g;apply V5;intro y f;replace f:=Eg x0 (cw x0) 0 0 rfl g y f;cases y with
  |ret c d =>have e:=f;exact VZ (DP Tryz.f148 [.b false,.lp .ret (j7 c d)] (AC b<|AL e<|AN))
  |x0 a =>
   have e:=f;apply V4<;>intro h
   ·exact VZ (DP Tryz.f148 [.b false,.lp (.exit 0) (iK x0 a),.b true] (AC b<|AL e<|AC h<|AN))
   ·apply V6;intro i;apply V4<;>intro j
    ·exact VZ (DP Tryz.f148 [.b false,.lp (.exit 0) (iK x0 a),.b false,.ret [Wq (bI a)],.b true] (AC b<|AL e<|AC h<|AD (sj a i)<|AC j<|AN))
    ·exact VZ (DP Tryz.f148 [.b false,.lp (.exit 0) (iK x0 a),.b false,.ret [Wq (bI a)],.b false] (AC b<|AL e<|AC h<|AD (sj a i)<|AC j<|AN))
inductive uT where|ret (v2:Int) (v3:Bool)|x0 (v4:Int)
def fF (v0:Zz)(v4 v5:Int):US:=stL 47 [(0,Wt v0),(4,Wr v4),(5,Wr v5)]
def jZ (a:Int)(b:Bool):US:=stL 47 [(2,Wr a),(3,Ws b)]
def iz (v0:Zz)(a:Int):US:=stL 47 [(0,Wt v0),(4,Wr a)]
abbrev lS:US→Exit→US→Prop:=Round E 175 (aq Tryz.f175 0)
def DW (v0:Zz)(v4 v5:Int):uT→Prop| .ret a b=>Loops E 175 (aq Tryz.f175 0) (fF v0 v4 v5) .ret (jZ a b)| .x0 c=>Loops E 175 (aq Tryz.f175 0) (fF v0 v4 v5) (.exit 0) (iz v0 c)
noncomputable def fG (v0:Zz):List Int→Nat→Int→Option uT|[],i,v4=>some (.x0 v4)|hd::rest,i,v4=>cond (decide (hd<(48:Int))) (some (.ret 0 false)) (cond (decide (hd>(57:Int))) (some (.ret 0 false)) (fG v0 rest (i+1) (IntKind.wrap .i64 ((IntKind.wrap .i64 (v4*(10:Int)))+(IntKind.wrap .i64 (IntKind.wrap .u8 (hd-(48:Int))))))))
theorem DV (v0:Zz)(rest:List Int):∀(i:Nat)(v4:Int),(cw v0).drop i=rest→v0.size≤9223372036854775807→Ans (fG v0 rest i v4) (DW v0 v4 (i:Int)):=by
 induction rest with
 |nil =>intro i v4 a c;have hb:=uP a;unfold fG;exact VZ (V3 (show lS (fF v0 v4 (i:Int)) (.exit 0) (iz v0 v4)from RP [.b false] (AC hb<|AN)))
 |cons hd rest g =>
  intro i v4 a c;have hb:=sS a;have h:=sT a c;have d:=az a;have b:=xQ a;obtain rfl:=xP a;unfold fG;apply V4<;>intro e
  ·exact VZ (V3 (show lS (fF v0 v4 (i:Int)) .ret (jZ 0 false)from RP [.b true,.b true] (AC hb<|AC b<|AC e<|AN)))
  ·apply V4<;>intro f
   ·exact VZ (V3 (show lS (fF v0 v4 (i:Int)) .ret (jZ 0 false)from RP [.b true,.b false,.b true] (AC hb<|AC b<|AC e<|AC b<|AC f<|AN)))
   ·exact(g (i+1) (IntKind.wrap .i64 ((IntKind.wrap .i64 (v4*(10:Int)))+(IntKind.wrap .i64 (IntKind.wrap .u8 ((jl v0 (i:Int))-(48:Int)))))) d c).mono fun y j=>by have r:lS (fF v0 v4 (i:Int)) .normal (fF v0 (IntKind.wrap .i64 ((IntKind.wrap .i64 (v4*(10:Int)))+(IntKind.wrap .i64 (IntKind.wrap .u8 ((jl v0 (i:Int))-(48:Int)))))) (inc (i:Int))):=RP [.b true,.b false,.b false] (AC hb<|AC b<|AC e<|AC b<|AC f<|AC b<|AN);rw[h]at r;cases y<;>exact V2 r j
noncomputable def mJ (b:Zz):Option (Int×Bool):=
  cond ((b.size:Int)==(0:Int))
   (some (0,false))
   (cond (decide ((b.size:Int)>(10:Int)))
    (some (0,false))
    (if b.size≤9223372036854775807 then(fG b (cw b) 0 0).bind fun y=>match y with
     | .ret c d=>(some (c,d))
     | .x0 a=>(cond (decide (a>(1000000000:Int)))
      (some (0,false))
      (if -9223372036854775808≤a∧a≤9223372036854775807 then cond (!((bI a).toList==b.toList))
       (some (0,false))
       (some (a,true))else none))else none))
theorem E6 (x0:Zz):Ans (mJ x0) (fun r=>Does E 175 [Wt x0] [Wo r.1,Wp r.2]):=by
 unfold mJ;apply V4<;>intro b
 ·exact VZ (DP Tryz.f175 [.b true] (AC b<|AN))
 ·apply V4<;>intro c
  ·exact VZ (DP Tryz.f175 [.b false,.b true] (AC b<|AC c<|AN))
  ·apply V6;intro h;apply V5;intro y g;replace g:=DV x0 (cw x0) 0 0 rfl h y g;cases y with
   |ret d e =>have f:=g;exact VZ (DP Tryz.f175 [.b false,.b false,.lp .ret (jZ d e)] (AC b<|AC c<|AL f<|AN))
   |x0 a =>
    have f:=g;apply V4<;>intro i
    ·exact VZ (DP Tryz.f175 [.b false,.b false,.lp (.exit 0) (iz x0 a),.b true] (AC b<|AC c<|AL f<|AC i<|AN))
    ·apply V6;intro j;apply V4<;>intro k
     ·exact VZ (DP Tryz.f175 [.b false,.b false,.lp (.exit 0) (iz x0 a),.b false,.ret [Wq (bI a)],.b true] (AC b<|AC c<|AL f<|AC i<|AD (wD a j)<|AC k<|AN))
     ·exact VZ (DP Tryz.f175 [.b false,.b false,.lp (.exit 0) (iz x0 a),.b false,.ret [Wq (bI a)],.b false] (AC b<|AC c<|AL f<|AC i<|AD (wD a j)<|AC k<|AN))
def nV:List UInt8→Int→Option Int|[],v=>some v|b::l,v=>if 48≤b.toNat∧b.toNat≤57 then nV l (10*v+((b.toNat:Int)-48))else none
noncomputable def ac (s:Zz):Int×Bool :=
 if 10<s.size then(0,false)else match nV (tx s) 0 with
  |none=>(0,false)
  |some n=>if 1000000000<n then(0,false)else if tx (bI n)=tx s then(n,true)else(0,false)
theorem Dm:∀(l:List UInt8)(v:Int)(k:Nat)(r:Int),0≤v→v<10 ^ k→nV l v=some r→0≤r∧r<10 ^ (k+l.length)
 |[],v,k,r,a,c,h=>by cases h;exact⟨a,c⟩
 |b::l,v,k,r,a,c,h=>by
  unfold nV at h;split at h
  ·rename_i hb;have:=Dm l (10*v+((b.toNat:Int)-48)) (k+1) r (by omega) (by rw[Int.pow_succ];omega) h;rw[W4,show k+(l.length+1)=k+1+l.length by omega];exact this
  ·cases h
theorem LJ {k n:Nat}(h:k≤n):(10:Int) ^ k≤10 ^ n:=by
 have:=Nat.pow_le_pow_right (n:=10) (by omega) h;have e:∀m:Nat,10 ^ m=((10 ^ m:Nat):Int):=fun m=>by simp
 rw[e,e];omega
theorem LL (s:Zz):∀(l:List UInt8)(i:Nat)(v:Int)(k:Nat),0≤v→v<10 ^ k→k+l.length≤10 →
  fM s (l.map fun b=>(b.toNat:Int)) i v=some (match nV l v with|some r=>.x0 r|none=>.ret 0 false) ∧
  fG s (l.map fun b=>(b.toNat:Int)) i v=some (match nV l v with|some r=>.x0 r|none=>.ret 0 false)
 |[],i,v,k,_,_,_=>⟨rfl,rfl⟩
 |b::l,i,v,k,f,g,a=>by
  have j:=LJ (show k≤10 by omega);have c:(10:Int) ^ 10=10000000000:=by decide
  rw[WT];unfold fM fG nV;have bl:=b.toNat_lt;by_cases h:b.toNat<48
  ·rw[WJ (by omega:((b.toNat:Int)<48)),WM (by omega)];exact⟨rfl,rfl⟩
  ·rw[WH (by omega:¬((b.toNat:Int)<48)),WO,WO];by_cases m:57<b.toNat
   ·rw[WJ (by omega:((b.toNat:Int)>57)),WM (by omega)];exact⟨rfl,rfl⟩
   ·rw[WH (by omega:¬((b.toNat:Int)>57)),Wz (by omega),WO,WO];have d:IntKind.wrap .i64 (IntKind.wrap .i64 (IntKind.wrap .i64 (10*v)+IntKind.wrap .i64 (b.toNat:Int))-48)=10*v+((b.toNat:Int)-48):=by rw[dR (10*v) (by omega) (by omega),dR (b.toNat:Int) (by omega) (by omega),dR (10*v+(b.toNat:Int)) (by omega) (by omega),dR _ (by omega) (by omega)];omega
    have e:IntKind.wrap .i64 (IntKind.wrap .i64 (v*10)+IntKind.wrap .i64 (IntKind.wrap .u8 ((b.toNat:Int)-48)))=10*v+((b.toNat:Int)-48):=by rw[TK (by omega) (by omega),dR (v*10) (by omega) (by omega),dR ((b.toNat:Int)-48) (by omega) (by omega),dR _ (by omega) (by omega)];omega
    rw[d,e];simp only[W4]at a;exact LL s l (i+1) _ (k+1) (by omega) (by rw[Int.pow_succ];omega) (by omega)
theorem xi {s:Zz}(h:¬ 10<s.size){r:Int}(a:nV (tx s) 0=some r):0≤r∧r<10000000000:=by
 have:=Dm (tx s) 0 0 r (by omega) (by decide) a;have c:=LJ (show 0+(tx s).length≤10 by rw[←dQ];omega);have b:(10:Int) ^ 10=10000000000:=by decide
 omega
theorem Sd (s:Zz):mQ s=some (ac s):=by
 unfold mQ ac;by_cases h:10<s.size
 ·rw[WJ (by omega),Wz h];rfl
 ·obtain⟨e, -⟩:=LL s (tx s) 0 0 0 (by omega) (by decide) (by rw[←dQ];omega);rw[WH (by omega),WM h,WO,Wz (by omega),uu,e];cases q:nV (tx s) 0 with
  |none=>rfl
  |some n =>
   obtain⟨a,b⟩:=xi h q;simp only[Wy];by_cases z:1000000000<n
   ·rw[WJ (by omega),Wz z];rfl
   ·rw[WH (by omega),WM z,WO,Wz (by omega),me];by_cases y:tx (bI n)=tx s
    ·rw[WJ y,Wz y];rfl
    ·rw[WH y,WM y];rfl
theorem Sc (s:Zz):mJ s=some (ac s):=by
 unfold mJ ac;by_cases hz:s.size=0
 ·have b:tx s=[]:=List.eq_nil_of_length_eq_zero (by rw[←dQ];exact hz);have a:((s.size:Int)==0)=true:=by rw[hz];rfl
  rw[a,WK,WM (by omega),b];unfold nV;simp only;have:¬tx (bI 0)=[]:=by unfold bI Lib.itoa;rw[WM (by omega),Lib.decDigits,dif_pos (by simp)];simp[tx]
  rw[WM (by omega),WM this]
 have a:((s.size:Int)==0)=false:=by rw[Xy];omega
 rw[a,WO];by_cases h:10<s.size
 ·rw[WJ (by omega),Wz h];rfl
 ·obtain⟨-,e⟩:=LL s (tx s) 0 0 0 (by omega) (by decide) (by rw[←dQ];omega);rw[WH (by omega),WM h,WO,Wz (by omega),uu,e];cases q:nV (tx s) 0 with
  |none=>rfl
  |some n =>
   obtain⟨c,d⟩:=xi h q;simp only[Wy];by_cases z:1000000000<n
   ·rw[WJ (by omega),Wz z];rfl
   ·rw[WH (by omega),WM z,WO,Wz (by omega),me];by_cases y:tx (bI n)=tx s
    ·rw[WJ y,Wz y];rfl
    ·rw[WH y,WM y];rfl
theorem Qp (s:Zz):0≤(ac s).1∧(ac s).1≤1000000000:=by
 unfold ac;split
 ·exact⟨XA _,by decide⟩
 ·rename_i h;split
  ·exact⟨XA _,by decide⟩
  ·rename_i n q;obtain⟨a,b⟩:=xi h q;split
   ·exact⟨XA _,by decide⟩
   ·split
    ·exact⟨a,by show n≤_;omega⟩
    ·exact⟨XA _,by decide⟩
theorem Ih:∀{l:List UInt8}{b:UInt8}(v:Int),b∈l→¬(48≤b.toNat∧b.toNat≤57)→nV l v=none
 |x::l,b,v,h,hb=>by
  unfold nV;rcases WZ.1 h with rfl|h
  ·rw[WM hb]
  ·split
   ·exact Ih _ h hb
   ·rfl
theorem Dl {s:Zz}{b:UInt8}(h:b∈tx s)(hb:¬(48≤b.toNat∧b.toNat≤57)):ac s=(0,false):=by unfold ac;rw[Ih 0 h hb];split<;>rfl
theorem qo (a:Zz):Does E 148 [Wt a] [Wo ((ac a).1),Wp ((ac a).2)]:=by exact FN a _ (Sd a)
theorem aC (a:Zz){c:Bool}(b:(ac a).2=c):Does E 148 [Wt a] [Wo ((ac a).1),Wp c]:=by rw[←b];exact qo a
theorem vz (a:Zz):Does E 175 [Wt a] [Wo ((ac a).1),Wp ((ac a).2)]:=by exact E6 a _ (Sc a)
theorem bH (a:Zz){c:Bool}(b:(ac a).2=c):Does E 175 [Wt a] [Wo ((ac a).1),Wp c]:=by rw[←b];exact vz a
inductive Aq where|x0 (v5:List Zz)
def hU (v0:Zz)(v1:Int)(v5:List Zz)(v6 v7:Int):US:=stL 36 [(0,Wt v0),(1,.one (tY v1)),(5,.one (Ww 1 (v5.map etS))),(6,Wr v6),(7,Wr v7)]
def ri (a:List Zz):US:=stL 36 [(5,.one (Ww 1 (a.map etS)))]
abbrev pr:US→Exit→US→Prop:=Round E 127 (aq Tryz.f127 0)
def JA (v0:Zz)(v1:Int)(v5:List Zz)(v6 v7:Int):Aq→Prop| .x0 a=>Loops E 127 (aq Tryz.f127 0) (hU v0 v1 v5 v6 v7) (.exit 0) (ri a)
noncomputable def eH (v0:Zz)(v1:Int):Nat→(List Zz)→Int→Int→Option Aq| 0,_,_,_=>none|n+1,v5,v6,v7=>cond (decide (v7≤(v0.size:Int))) (cond (v7==(v0.size:Int)) (if 0≤v6∧v6≤v7∧v7≤(v0.size:Int)then if(v5.length+([v0.extract v6.toNat v7.toNat]).length)*16≤140737488355328∧v5.length+([v0.extract v6.toNat v7.toNat]).length≤4611686018427387904 then eH v0 v1 n (v5++([v0.extract v6.toNat v7.toNat])) (inc v7) (inc v7)else none else none) (if 0≤v7∧v7<(v0.size:Int)then cond ((jl v0 v7)==v1) (if 0≤v6∧v6≤v7∧v7≤(v0.size:Int)then if(v5.length+([v0.extract v6.toNat v7.toNat]).length)*16≤140737488355328∧v5.length+([v0.extract v6.toNat v7.toNat]).length≤4611686018427387904 then eH v0 v1 n (v5++([v0.extract v6.toNat v7.toNat])) (inc v7) (inc v7)else none else none) (eH v0 v1 n v5 v6 (inc v7))else none)) (some (.x0 v5))
theorem Jz (v0:Zz)(v1:Int)(n:Nat):∀(v5:List Zz)(v6 v7:Int),Ans (eH v0 v1 n v5 v6 v7) (JA v0 v1 v5 v6 v7):=by
 induction n with
 |zero=>intros;exact Ans.none
 |succ n e =>
  intro v5 v6 v7;unfold eH;apply V4<;>intro b
  ·apply V4<;>intro f
   ·apply V6;intro c;apply V6;intro d;have r:pr (hU v0 v1 v5 v6 v7) .normal (hU v0 v1 (a6 v5 v0 v6 v7) (inc v7) (inc v7)):=RP [.b true,.b true,.rows ((a6 v5 v0 v6 v7).map etS)] (AC b<|AC f<|AC c<|AAp etS (fun _=>rfl) d<|AN);exact(e (a6 v5 v0 v6 v7) (inc v7) (inc v7)).mono fun y a=>by cases y<;>exact V2 r a
   ·apply V6;intro c;apply V4<;>intro d
    ·apply V6;intro g;apply V6;intro h;have r:pr (hU v0 v1 v5 v6 v7) .normal (hU v0 v1 (a6 v5 v0 v6 v7) (inc v7) (inc v7)):=RP [.b true,.b false,.b true,.rows ((a6 v5 v0 v6 v7).map etS)] (AC b<|AC f<|AC c<|AC d<|AC g<|AAp etS (fun _=>rfl) h<|AN);exact(e (a6 v5 v0 v6 v7) (inc v7) (inc v7)).mono fun y a=>by cases y<;>exact V2 r a
    ·have r:pr (hU v0 v1 v5 v6 v7) .normal (hU v0 v1 v5 v6 (inc v7)):=RP [.b true,.b false,.b false] (AC b<|AC f<|AC c<|AC d<|AN);exact(e v5 v6 (inc v7)).mono fun y a=>by cases y<;>exact V2 r a
  ·exact VZ (V3 (show pr (hU v0 v1 v5 v6 v7) (.exit 0) (ri v5)from RP [.b false] (AC b<|AN)))
noncomputable def rj (b:Zz)(c:Int):Option ((List Zz)):=
  (eH b c 9223372036854775808 ([]) 0 0).bind fun y=>match y with
   | .x0 a=>(some (a))
theorem Mb (x0:Zz)(b:Int):Ans (rj x0 b) (fun r=>Does E 127 [Wt x0,.one (tY b)] [(false,[Ww 1 (r.map etS)])]):=by
 unfold rj;apply V5;intro y c;replace c:=Jz x0 b 9223372036854775808 ([]) 0 0 y c;cases y with
 |x0 a =>have d:=c;exact VZ (DP Tryz.f127 [.lp (.exit 0) (ri a)] (AL d<|AN))
noncomputable def ao (s:Zz)(c:Int):List Zz:=(ci (UInt8.ofNat c.toNat) (tx s)).map ofTx
theorem Ss (s:Zz)(c:UInt8)(hs:s.size≤2000000):∀(m i a:Nat)(v:List Zz)(n:Nat),i+m=(tx s).length→m+1<n→a≤i→v.length+m≤2000000 →
  eH s (c.toNat:Int) n v (a:Int) (i:Int)=some (.x0 (v++(j8 (seg (tx s) a i) (ci c ((tx s).drop i))).map ofTx))
 |m,i,a,v,n,hi,A,t,hv=>by
  obtain⟨n,rfl⟩:∃k,n=k+2:=⟨n-2,by omega⟩
  have u:=dQ s;unfold eH;rw[WJ (by omega:(i:Int)≤(s.size:Int)),WK];have d:inc (i:Int)=((i+1:Nat):Int):=by rw[cr _ (by omega) (by omega)];omega
  cases m with
  |zero =>
   have hd:(tx s).drop i=[]:=Xn (by omega);have stop:∀w b,eH s (c.toNat:Int) (n+1) w b ((i+1:Nat):Int)=some (.x0 w):=fun w b=>by unfold eH;rw[WH (by omega)];rfl
   have hc:j8 (seg (tx s) a i) (ci c ([]:List UInt8))=[seg (tx s) a i]:=by simp[ci,j8]
   have e:((i:Int)==(s.size:Int))=true:=by rw[Yc];omega
   rw[e,WK,Wz (by omega),Wz (by simp;omega),d,stop,hd,hc,show((a:Int).toNat)=a by omega,show((i:Int).toNat)=i by omega,oO];rfl
  |succ m =>
   obtain⟨b,r,hd,j,x⟩:=KK (l:=tx s) (i:=i) (by omega);have hb:=Km j;have f:=fun o p (y:o≤i+1) (z:p.length+m≤2000000)=>Ss s c hs m (i+1) o p (n+1) (by omega) (by omega) y z
   rw[x]at f;have e:((i:Int)==(s.size:Int))=false:=by rw[Xy];omega
   rw[e,WO,Wz (by omega),hb,d,hd];by_cases q:b=c
   ·subst q;have g:j8 (seg (tx s) a i) ([]::ci b r)=seg (tx s) a i::ci b r:=by simp[j8]
    have hz:j8 (seg (tx s) (i+1) (i+1)) (ci b r)=ci b r:=by rw[vo];exact y6 _ (ka _ _)
    have:=f (i+1) (v++[s.extract a i]) (by omega) (by simp;omega);rw[hz]at this;rw[beq_self_eq_true,WK,Wz (by omega),Wz (by simp;omega),uM,g];rw[show((a:Int).toNat)=a by omega,show((i:Int).toNat)=i by omega,this,oO];simp
   ·have e:((b.toNat:Int)==(c.toNat:Int))=false:=by rw[Xy];intro h;exact q (Zw.1 (by omega))
    rw[e,WO,f a v (by omega) (by omega),pY q,H7 _ _ _ (ka _ _), ←Mm t j]
theorem P4 (s:Zz)(c:Int)(hs:s.size≤2000000)(hc:0≤c∧c<256):rj s c=some (ao s c):=by
 have hz:j8 (seg (tx s) 0 0) (ci (UInt8.ofNat c.toNat) (tx s))=ci (UInt8.ofNat c.toNat) (tx s):=by rw[vo];exact y6 _ (ka _ _)
 have e:=Ss s (UInt8.ofNat c.toNat) hs (tx s).length 0 0 [] 9223372036854775808 (by omega) (by rw[←dQ];omega) (by omega) (by rw[←dQ];simp;omega);have a:(((UInt8.ofNat c.toNat).toNat:Nat):Int)=c:=by rw[UInt8.toNat_ofNat'];omega
 rw[W9,hz,W7,a]at e;unfold rj ao;refine(WV (Option.bind · _) e).trans ?_;rfl
theorem bp (b:Zz)(a:Int)(h:b.size≤2000000)(hc:0≤a∧a<256):Does E 127 [Wt b,.one (tY a)] [(false,[Ww 1 ((ao b a).map etS)])]:=by exact Mb b a _ (P4 b a h hc)
noncomputable def np (b:Zz)(c d:Int):Option (Int×Int×Int×Bool):=cond (b.toList==(⟨#[42]⟩:Zz).toList) (some (c,d,1,true)) (cond (decide ((b.size:Int)>(2:Int))) (if 0≤(0:Int)∧(0:Int)≤(2:Int)∧(2:Int)≤(b.size:Int)then cond ((b.extract (0:Int).toNat (2:Int).toNat).toList==(⟨#[42,47]⟩:Zz).toList) (if 0≤(2:Int)∧(2:Int)≤(b.size:Int)∧(b.size:Int)≤(b.size:Int)then cond ((ac (b.extract (2:Int).toNat (b.size:Int).toNat)).2) (some (c,d,(ac (b.extract (2:Int).toNat (b.size:Int).toNat)).1,decide (((ac (b.extract (2:Int).toNat (b.size:Int).toNat)).1)≥(1:Int)))) (some (c,d,(ac (b.extract (2:Int).toNat (b.size:Int).toNat)).1,false))else none) (if b.size≤2000000 then if 0≤(45:Int)∧(45:Int)<256 then(ar (ao b 45) 0).bind fun a=>cond ((ac a).2) (cond (((ao b 45).length:Int)==(2:Int)) ((ar (ao b 45) 1).bind fun g1=>cond ((ac g1).2) (cond (decide (((ao b 45).length:Int)≤(2:Int))) (cond (decide (c≤((ac a).1))) (cond (decide (((ac a).1)≤((ac g1).1))) (some ((ac a).1,(ac g1).1,1,decide (((ac g1).1)≤d))) (some ((ac a).1,(ac g1).1,1,false))) (some ((ac a).1,(ac g1).1,1,false))) (some ((ac a).1,(ac g1).1,1,false))) (some ((ac a).1,(ac g1).1,1,false))) (cond (decide (((ao b 45).length:Int)≤(2:Int))) (cond (decide (c≤((ac a).1))) (cond (decide (((ac a).1)≤((ac a).1))) (some ((ac a).1,(ac a).1,1,decide (((ac a).1)≤d))) (some ((ac a).1,(ac a).1,1,false))) (some ((ac a).1,(ac a).1,1,false))) (some ((ac a).1,(ac a).1,1,false)))) (cond (((ao b 45).length:Int)==(2:Int)) ((ar (ao b 45) 1).bind fun g1=>some ((ac a).1,(ac g1).1,1,false)) (some ((ac a).1,(ac a).1,1,false)))else none else none)else none) (if b.size≤2000000 then if 0≤(45:Int)∧(45:Int)<256 then(ar (ao b 45) 0).bind fun a=>cond ((ac a).2) (cond (((ao b 45).length:Int)==(2:Int)) ((ar (ao b 45) 1).bind fun g1=>cond ((ac g1).2) (cond (decide (((ao b 45).length:Int)≤(2:Int))) (cond (decide (c≤((ac a).1))) (cond (decide (((ac a).1)≤((ac g1).1))) (some ((ac a).1,(ac g1).1,1,decide (((ac g1).1)≤d))) (some ((ac a).1,(ac g1).1,1,false))) (some ((ac a).1,(ac g1).1,1,false))) (some ((ac a).1,(ac g1).1,1,false))) (some ((ac a).1,(ac g1).1,1,false))) (cond (decide (((ao b 45).length:Int)≤(2:Int))) (cond (decide (c≤((ac a).1))) (cond (decide (((ac a).1)≤((ac a).1))) (some ((ac a).1,(ac a).1,1,decide (((ac a).1)≤d))) (some ((ac a).1,(ac a).1,1,false))) (some ((ac a).1,(ac a).1,1,false))) (some ((ac a).1,(ac a).1,1,false)))) (cond (((ao b 45).length:Int)==(2:Int)) ((ar (ao b 45) 1).bind fun g1=>some ((ac a).1,(ac g1).1,1,false)) (some ((ac a).1,(ac a).1,1,false)))else none else none))
noncomputable abbrev ZZ (a:Zz):=(false,[Ww 1 ((ao a 45).map etS)])
abbrev bb (a:Zz):=a.extract (2:Int).toNat (a.size:Int).toNat
theorem L8 (a:Zz)(q s:Int):Ans (np a q s) (fun r=>Does E 128 [Wt a,Wr q,Wr s] [Wo r.1,Wo r.2.1,Wo r.2.2.1,Wp r.2.2.2]):=by
 unfold np;apply V4<;>intro f
 ·exact VZ (DP Tryz.f128 [.b true] (AC f<|AN))
 ·apply V4<;>intro i
  ·apply V6;intro g;apply V4<;>intro h
   ·apply V6;intro d;apply V4<;>intro e
    ·exact VZ (DP Tryz.f128 [.b false,.b true,.b true,.ret [Wo ((ac (bb a)).1),Wp true]] (AC f<|AC i<|AC g<|AC h<|AC d<|AD (aC (bb a) e)<|AN))
    ·exact VZ (DP Tryz.f128 [.b false,.b true,.b true,.ret [Wo ((ac (bb a)).1),Wp false]] (AC f<|AC i<|AC g<|AC h<|AC d<|AD (aC (bb a) e)<|AN))
   ·apply V6;intro d;apply V6;intro e;apply V5;intro b j;apply V4<;>intro k
    ·apply V4<;>intro l
     ·apply V5;intro g1 n;apply V4<;>intro c
      ·apply V4<;>intro m
       ·apply V4<;>intro o
        ·apply V4<;>intro p
         ·exact VZ (DP Tryz.f128 [.b false,.b true,.b false,.ret [(ZZ a)],.row (etS b),.ret [Wo ((ac b).1),Wp true],Wu ((ao a 45).length:Int),.b true,.row (etS g1),.ret [Wo ((ac g1).1),Wp true],Wu ((ao a 45).length:Int),.b true,.b true,.b true] (AC f<|AC i<|AC g<|AC h<|AD (bp a 45 d e)<|AG etS j<|AD (aC b k)<|ALn (ao a 45) etS<|AC l<|AG etS n<|AD (aC g1 c)<|ALn (ao a 45) etS<|AC m<|AC o<|AC p<|AN))
         ·exact VZ (DP Tryz.f128 [.b false,.b true,.b false,.ret [(ZZ a)],.row (etS b),.ret [Wo ((ac b).1),Wp true],Wu ((ao a 45).length:Int),.b true,.row (etS g1),.ret [Wo ((ac g1).1),Wp true],Wu ((ao a 45).length:Int),.b true,.b true,.b false] (AC f<|AC i<|AC g<|AC h<|AD (bp a 45 d e)<|AG etS j<|AD (aC b k)<|ALn (ao a 45) etS<|AC l<|AG etS n<|AD (aC g1 c)<|ALn (ao a 45) etS<|AC m<|AC o<|AC p<|AN))
        ·exact VZ (DP Tryz.f128 [.b false,.b true,.b false,.ret [(ZZ a)],.row (etS b),.ret [Wo ((ac b).1),Wp true],Wu ((ao a 45).length:Int),.b true,.row (etS g1),.ret [Wo ((ac g1).1),Wp true],Wu ((ao a 45).length:Int),.b true,.b false] (AC f<|AC i<|AC g<|AC h<|AD (bp a 45 d e)<|AG etS j<|AD (aC b k)<|ALn (ao a 45) etS<|AC l<|AG etS n<|AD (aC g1 c)<|ALn (ao a 45) etS<|AC m<|AC o<|AN))
       ·exact VZ (DP Tryz.f128 [.b false,.b true,.b false,.ret [(ZZ a)],.row (etS b),.ret [Wo ((ac b).1),Wp true],Wu ((ao a 45).length:Int),.b true,.row (etS g1),.ret [Wo ((ac g1).1),Wp true],Wu ((ao a 45).length:Int),.b false] (AC f<|AC i<|AC g<|AC h<|AD (bp a 45 d e)<|AG etS j<|AD (aC b k)<|ALn (ao a 45) etS<|AC l<|AG etS n<|AD (aC g1 c)<|ALn (ao a 45) etS<|AC m<|AN))
      ·exact VZ (DP Tryz.f128 [.b false,.b true,.b false,.ret [(ZZ a)],.row (etS b),.ret [Wo ((ac b).1),Wp true],Wu ((ao a 45).length:Int),.b true,.row (etS g1),.ret [Wo ((ac g1).1),Wp false]] (AC f<|AC i<|AC g<|AC h<|AD (bp a 45 d e)<|AG etS j<|AD (aC b k)<|ALn (ao a 45) etS<|AC l<|AG etS n<|AD (aC g1 c)<|AN))
     ·apply V4<;>intro n
      ·apply V4<;>intro c
       ·apply V4<;>intro m
        ·exact VZ (DP Tryz.f128 [.b false,.b true,.b false,.ret [(ZZ a)],.row (etS b),.ret [Wo ((ac b).1),Wp true],Wu ((ao a 45).length:Int),.b false,Wu ((ao a 45).length:Int),.b true,.b true,.b true] (AC f<|AC i<|AC g<|AC h<|AD (bp a 45 d e)<|AG etS j<|AD (aC b k)<|ALn (ao a 45) etS<|AC l<|ALn (ao a 45) etS<|AC n<|AC c<|AC m<|AN))
        ·exact VZ (DP Tryz.f128 [.b false,.b true,.b false,.ret [(ZZ a)],.row (etS b),.ret [Wo ((ac b).1),Wp true],Wu ((ao a 45).length:Int),.b false,Wu ((ao a 45).length:Int),.b true,.b true,.b false] (AC f<|AC i<|AC g<|AC h<|AD (bp a 45 d e)<|AG etS j<|AD (aC b k)<|ALn (ao a 45) etS<|AC l<|ALn (ao a 45) etS<|AC n<|AC c<|AC m<|AN))
       ·exact VZ (DP Tryz.f128 [.b false,.b true,.b false,.ret [(ZZ a)],.row (etS b),.ret [Wo ((ac b).1),Wp true],Wu ((ao a 45).length:Int),.b false,Wu ((ao a 45).length:Int),.b true,.b false] (AC f<|AC i<|AC g<|AC h<|AD (bp a 45 d e)<|AG etS j<|AD (aC b k)<|ALn (ao a 45) etS<|AC l<|ALn (ao a 45) etS<|AC n<|AC c<|AN))
      ·exact VZ (DP Tryz.f128 [.b false,.b true,.b false,.ret [(ZZ a)],.row (etS b),.ret [Wo ((ac b).1),Wp true],Wu ((ao a 45).length:Int),.b false,Wu ((ao a 45).length:Int),.b false] (AC f<|AC i<|AC g<|AC h<|AD (bp a 45 d e)<|AG etS j<|AD (aC b k)<|ALn (ao a 45) etS<|AC l<|ALn (ao a 45) etS<|AC n<|AN))
    ·apply V4<;>intro l
     ·apply V5;intro g1 n;exact VZ (DP Tryz.f128 [.b false,.b true,.b false,.ret [(ZZ a)],.row (etS b),.ret [Wo ((ac b).1),Wp false],Wu ((ao a 45).length:Int),.b true,.row (etS g1),.ret [Wo ((ac g1).1),Wp ((ac g1).2)]] (AC f<|AC i<|AC g<|AC h<|AD (bp a 45 d e)<|AG etS j<|AD (aC b k)<|ALn (ao a 45) etS<|AC l<|AG etS n<|AD (qo g1)<|AN))
     ·exact VZ (DP Tryz.f128 [.b false,.b true,.b false,.ret [(ZZ a)],.row (etS b),.ret [Wo ((ac b).1),Wp false],Wu ((ao a 45).length:Int),.b false] (AC f<|AC i<|AC g<|AC h<|AD (bp a 45 d e)<|AG etS j<|AD (aC b k)<|ALn (ao a 45) etS<|AC l<|AN))
  ·apply V6;intro g;apply V6;intro h;apply V5;intro b d;apply V4<;>intro e
   ·apply V4<;>intro j
    ·apply V5;intro g1 k;apply V4<;>intro l
     ·apply V4<;>intro n
      ·apply V4<;>intro c
       ·apply V4<;>intro m
        ·exact VZ (DP Tryz.f128 [.b false,.b false,.ret [(ZZ a)],.row (etS b),.ret [Wo ((ac b).1),Wp true],Wu ((ao a 45).length:Int),.b true,.row (etS g1),.ret [Wo ((ac g1).1),Wp true],Wu ((ao a 45).length:Int),.b true,.b true,.b true] (AC f<|AC i<|AD (bp a 45 g h)<|AG etS d<|AD (aC b e)<|ALn (ao a 45) etS<|AC j<|AG etS k<|AD (aC g1 l)<|ALn (ao a 45) etS<|AC n<|AC c<|AC m<|AN))
        ·exact VZ (DP Tryz.f128 [.b false,.b false,.ret [(ZZ a)],.row (etS b),.ret [Wo ((ac b).1),Wp true],Wu ((ao a 45).length:Int),.b true,.row (etS g1),.ret [Wo ((ac g1).1),Wp true],Wu ((ao a 45).length:Int),.b true,.b true,.b false] (AC f<|AC i<|AD (bp a 45 g h)<|AG etS d<|AD (aC b e)<|ALn (ao a 45) etS<|AC j<|AG etS k<|AD (aC g1 l)<|ALn (ao a 45) etS<|AC n<|AC c<|AC m<|AN))
       ·exact VZ (DP Tryz.f128 [.b false,.b false,.ret [(ZZ a)],.row (etS b),.ret [Wo ((ac b).1),Wp true],Wu ((ao a 45).length:Int),.b true,.row (etS g1),.ret [Wo ((ac g1).1),Wp true],Wu ((ao a 45).length:Int),.b true,.b false] (AC f<|AC i<|AD (bp a 45 g h)<|AG etS d<|AD (aC b e)<|ALn (ao a 45) etS<|AC j<|AG etS k<|AD (aC g1 l)<|ALn (ao a 45) etS<|AC n<|AC c<|AN))
      ·exact VZ (DP Tryz.f128 [.b false,.b false,.ret [(ZZ a)],.row (etS b),.ret [Wo ((ac b).1),Wp true],Wu ((ao a 45).length:Int),.b true,.row (etS g1),.ret [Wo ((ac g1).1),Wp true],Wu ((ao a 45).length:Int),.b false] (AC f<|AC i<|AD (bp a 45 g h)<|AG etS d<|AD (aC b e)<|ALn (ao a 45) etS<|AC j<|AG etS k<|AD (aC g1 l)<|ALn (ao a 45) etS<|AC n<|AN))
     ·exact VZ (DP Tryz.f128 [.b false,.b false,.ret [(ZZ a)],.row (etS b),.ret [Wo ((ac b).1),Wp true],Wu ((ao a 45).length:Int),.b true,.row (etS g1),.ret [Wo ((ac g1).1),Wp false]] (AC f<|AC i<|AD (bp a 45 g h)<|AG etS d<|AD (aC b e)<|ALn (ao a 45) etS<|AC j<|AG etS k<|AD (aC g1 l)<|AN))
    ·apply V4<;>intro k
     ·apply V4<;>intro l
      ·apply V4<;>intro n
       ·exact VZ (DP Tryz.f128 [.b false,.b false,.ret [(ZZ a)],.row (etS b),.ret [Wo ((ac b).1),Wp true],Wu ((ao a 45).length:Int),.b false,Wu ((ao a 45).length:Int),.b true,.b true,.b true] (AC f<|AC i<|AD (bp a 45 g h)<|AG etS d<|AD (aC b e)<|ALn (ao a 45) etS<|AC j<|ALn (ao a 45) etS<|AC k<|AC l<|AC n<|AN))
       ·exact VZ (DP Tryz.f128 [.b false,.b false,.ret [(ZZ a)],.row (etS b),.ret [Wo ((ac b).1),Wp true],Wu ((ao a 45).length:Int),.b false,Wu ((ao a 45).length:Int),.b true,.b true,.b false] (AC f<|AC i<|AD (bp a 45 g h)<|AG etS d<|AD (aC b e)<|ALn (ao a 45) etS<|AC j<|ALn (ao a 45) etS<|AC k<|AC l<|AC n<|AN))
      ·exact VZ (DP Tryz.f128 [.b false,.b false,.ret [(ZZ a)],.row (etS b),.ret [Wo ((ac b).1),Wp true],Wu ((ao a 45).length:Int),.b false,Wu ((ao a 45).length:Int),.b true,.b false] (AC f<|AC i<|AD (bp a 45 g h)<|AG etS d<|AD (aC b e)<|ALn (ao a 45) etS<|AC j<|ALn (ao a 45) etS<|AC k<|AC l<|AN))
     ·exact VZ (DP Tryz.f128 [.b false,.b false,.ret [(ZZ a)],.row (etS b),.ret [Wo ((ac b).1),Wp true],Wu ((ao a 45).length:Int),.b false,Wu ((ao a 45).length:Int),.b false] (AC f<|AC i<|AD (bp a 45 g h)<|AG etS d<|AD (aC b e)<|ALn (ao a 45) etS<|AC j<|ALn (ao a 45) etS<|AC k<|AN))
   ·apply V4<;>intro j
    ·apply V5;intro g1 k;exact VZ (DP Tryz.f128 [.b false,.b false,.ret [(ZZ a)],.row (etS b),.ret [Wo ((ac b).1),Wp false],Wu ((ao a 45).length:Int),.b true,.row (etS g1),.ret [Wo ((ac g1).1),Wp ((ac g1).2)]] (AC f<|AC i<|AD (bp a 45 g h)<|AG etS d<|AD (aC b e)<|ALn (ao a 45) etS<|AC j<|AG etS k<|AD (qo g1)<|AN))
    ·exact VZ (DP Tryz.f128 [.b false,.b false,.ret [(ZZ a)],.row (etS b),.ret [Wo ((ac b).1),Wp false],Wu ((ao a 45).length:Int),.b false] (AC f<|AC i<|AD (bp a 45 g h)<|AG etS d<|AD (aC b e)<|ALn (ao a 45) etS<|AC j<|AN))
noncomputable def oS (a:Zz)(b c:Int):Option (Int×Int×Int×Bool):=cond (a.toList==(⟨#[42]⟩:Zz).toList) (some (b,c,1,true)) (cond ((ch a (⟨#[42,47]⟩:Zz)).2) (cond ((ac ((ch a (⟨#[42,47]⟩:Zz)).1)).2) (some (b,c,(ac ((ch a (⟨#[42,47]⟩:Zz)).1)).1,decide (((ac ((ch a (⟨#[42,47]⟩:Zz)).1)).1)≥(1:Int)))) (some (b,c,(ac ((ch a (⟨#[42,47]⟩:Zz)).1)).1,false))) (if a.size<4294967281 then cond ((aV a (⟨#[45]⟩:Zz)).2.2) (cond ((ac ((aV a (⟨#[45]⟩:Zz)).1)).2) (cond ((ac ((aV a (⟨#[45]⟩:Zz)).2.1)).2) (cond (decide (((ac ((aV a (⟨#[45]⟩:Zz)).1)).1)≥b)) (cond (decide (((ac ((aV a (⟨#[45]⟩:Zz)).1)).1)≤((ac ((aV a (⟨#[45]⟩:Zz)).2.1)).1))) (some ((ac ((aV a (⟨#[45]⟩:Zz)).1)).1,(ac ((aV a (⟨#[45]⟩:Zz)).2.1)).1,1,decide (((ac ((aV a (⟨#[45]⟩:Zz)).2.1)).1)≤c))) (some ((ac ((aV a (⟨#[45]⟩:Zz)).1)).1,(ac ((aV a (⟨#[45]⟩:Zz)).2.1)).1,1,false))) (some ((ac ((aV a (⟨#[45]⟩:Zz)).1)).1,(ac ((aV a (⟨#[45]⟩:Zz)).2.1)).1,1,false))) (some ((ac ((aV a (⟨#[45]⟩:Zz)).1)).1,(ac ((aV a (⟨#[45]⟩:Zz)).2.1)).1,1,false))) (some ((ac ((aV a (⟨#[45]⟩:Zz)).1)).1,(ac ((aV a (⟨#[45]⟩:Zz)).2.1)).1,1,false))) (cond ((ac ((aV a (⟨#[45]⟩:Zz)).1)).2) (cond (decide (((ac ((aV a (⟨#[45]⟩:Zz)).1)).1)≥b)) (cond (decide (((ac ((aV a (⟨#[45]⟩:Zz)).1)).1)≤((ac ((aV a (⟨#[45]⟩:Zz)).1)).1))) (some ((ac ((aV a (⟨#[45]⟩:Zz)).1)).1,(ac ((aV a (⟨#[45]⟩:Zz)).1)).1,1,decide (((ac ((aV a (⟨#[45]⟩:Zz)).1)).1)≤c))) (some ((ac ((aV a (⟨#[45]⟩:Zz)).1)).1,(ac ((aV a (⟨#[45]⟩:Zz)).1)).1,1,false))) (some ((ac ((aV a (⟨#[45]⟩:Zz)).1)).1,(ac ((aV a (⟨#[45]⟩:Zz)).1)).1,1,false))) (some ((ac ((aV a (⟨#[45]⟩:Zz)).1)).1,(ac ((aV a (⟨#[45]⟩:Zz)).1)).1,1,false)))else none))
theorem Nn (a:Zz)(i j:Int):Ans (oS a i j) (fun r=>Does E 165 [Wt a,Wr i,Wr j] [Wo r.1,Wo r.2.1,Wo r.2.2.1,Wp r.2.2.2]):=by
 unfold oS;apply V4<;>intro b
 ·exact VZ (DP Tryz.f165 [.b true] (AC b<|AN))
 ·apply V4<;>intro d
  ·apply V4<;>intro c
   ·exact VZ (DP Tryz.f165 [.b false,.ret [Wq ((ch a (⟨#[42,47]⟩:Zz)).1),Wp true],.ret [Wo ((ac ((ch a (⟨#[42,47]⟩:Zz)).1)).1),Wp true]] (AC b<|AD (V7 (rs':=[Wq ((ch a (⟨#[42,47]⟩:Zz)).1),Wp true]) (cb a (⟨#[42,47]⟩:Zz)) (by rw[d]))<|AD (bH ((ch a (⟨#[42,47]⟩:Zz)).1) c)<|AN))
   ·exact VZ (DP Tryz.f165 [.b false,.ret [Wq ((ch a (⟨#[42,47]⟩:Zz)).1),Wp true],.ret [Wo ((ac ((ch a (⟨#[42,47]⟩:Zz)).1)).1),Wp false]] (AC b<|AD (V7 (rs':=[Wq ((ch a (⟨#[42,47]⟩:Zz)).1),Wp true]) (cb a (⟨#[42,47]⟩:Zz)) (by rw[d]))<|AD (bH ((ch a (⟨#[42,47]⟩:Zz)).1) c)<|AN))
  ·apply V6;intro c;apply V4<;>intro f
   ·apply V4<;>intro e
    ·apply V4<;>intro g
     ·apply V4<;>intro h
      ·apply V4<;>intro k
       ·exact VZ (DP Tryz.f165 [.b false,.ret [Wq ((ch a (⟨#[42,47]⟩:Zz)).1),Wp false],.ret [Wq ((aV a (⟨#[45]⟩:Zz)).1),Wq ((aV a (⟨#[45]⟩:Zz)).2.1),Wp true],.ret [Wo ((ac ((aV a (⟨#[45]⟩:Zz)).1)).1),Wp true],.ret [Wo ((ac ((aV a (⟨#[45]⟩:Zz)).2.1)).1),Wp true],.b true,.b true] (AC b<|AD (V7 (rs':=[Wq ((ch a (⟨#[42,47]⟩:Zz)).1),Wp false]) (cb a (⟨#[42,47]⟩:Zz)) (by rw[d]))<|AD (V7 (rs':=[Wq ((aV a (⟨#[45]⟩:Zz)).1),Wq ((aV a (⟨#[45]⟩:Zz)).2.1),Wp true]) (fy a (⟨#[45]⟩:Zz) c) (by rw[f]))<|AD (bH ((aV a (⟨#[45]⟩:Zz)).1) e)<|AD (bH ((aV a (⟨#[45]⟩:Zz)).2.1) g)<|AC h<|AC k<|AN))
       ·exact VZ (DP Tryz.f165 [.b false,.ret [Wq ((ch a (⟨#[42,47]⟩:Zz)).1),Wp false],.ret [Wq ((aV a (⟨#[45]⟩:Zz)).1),Wq ((aV a (⟨#[45]⟩:Zz)).2.1),Wp true],.ret [Wo ((ac ((aV a (⟨#[45]⟩:Zz)).1)).1),Wp true],.ret [Wo ((ac ((aV a (⟨#[45]⟩:Zz)).2.1)).1),Wp true],.b true,.b false] (AC b<|AD (V7 (rs':=[Wq ((ch a (⟨#[42,47]⟩:Zz)).1),Wp false]) (cb a (⟨#[42,47]⟩:Zz)) (by rw[d]))<|AD (V7 (rs':=[Wq ((aV a (⟨#[45]⟩:Zz)).1),Wq ((aV a (⟨#[45]⟩:Zz)).2.1),Wp true]) (fy a (⟨#[45]⟩:Zz) c) (by rw[f]))<|AD (bH ((aV a (⟨#[45]⟩:Zz)).1) e)<|AD (bH ((aV a (⟨#[45]⟩:Zz)).2.1) g)<|AC h<|AC k<|AN))
      ·exact VZ (DP Tryz.f165 [.b false,.ret [Wq ((ch a (⟨#[42,47]⟩:Zz)).1),Wp false],.ret [Wq ((aV a (⟨#[45]⟩:Zz)).1),Wq ((aV a (⟨#[45]⟩:Zz)).2.1),Wp true],.ret [Wo ((ac ((aV a (⟨#[45]⟩:Zz)).1)).1),Wp true],.ret [Wo ((ac ((aV a (⟨#[45]⟩:Zz)).2.1)).1),Wp true],.b false] (AC b<|AD (V7 (rs':=[Wq ((ch a (⟨#[42,47]⟩:Zz)).1),Wp false]) (cb a (⟨#[42,47]⟩:Zz)) (by rw[d]))<|AD (V7 (rs':=[Wq ((aV a (⟨#[45]⟩:Zz)).1),Wq ((aV a (⟨#[45]⟩:Zz)).2.1),Wp true]) (fy a (⟨#[45]⟩:Zz) c) (by rw[f]))<|AD (bH ((aV a (⟨#[45]⟩:Zz)).1) e)<|AD (bH ((aV a (⟨#[45]⟩:Zz)).2.1) g)<|AC h<|AN))
     ·exact VZ (DP Tryz.f165 [.b false,.ret [Wq ((ch a (⟨#[42,47]⟩:Zz)).1),Wp false],.ret [Wq ((aV a (⟨#[45]⟩:Zz)).1),Wq ((aV a (⟨#[45]⟩:Zz)).2.1),Wp true],.ret [Wo ((ac ((aV a (⟨#[45]⟩:Zz)).1)).1),Wp true],.ret [Wo ((ac ((aV a (⟨#[45]⟩:Zz)).2.1)).1),Wp false]] (AC b<|AD (V7 (rs':=[Wq ((ch a (⟨#[42,47]⟩:Zz)).1),Wp false]) (cb a (⟨#[42,47]⟩:Zz)) (by rw[d]))<|AD (V7 (rs':=[Wq ((aV a (⟨#[45]⟩:Zz)).1),Wq ((aV a (⟨#[45]⟩:Zz)).2.1),Wp true]) (fy a (⟨#[45]⟩:Zz) c) (by rw[f]))<|AD (bH ((aV a (⟨#[45]⟩:Zz)).1) e)<|AD (bH ((aV a (⟨#[45]⟩:Zz)).2.1) g)<|AN))
    ·exact VZ (DP Tryz.f165 [.b false,.ret [Wq ((ch a (⟨#[42,47]⟩:Zz)).1),Wp false],.ret [Wq ((aV a (⟨#[45]⟩:Zz)).1),Wq ((aV a (⟨#[45]⟩:Zz)).2.1),Wp true],.ret [Wo ((ac ((aV a (⟨#[45]⟩:Zz)).1)).1),Wp false],.ret [Wo ((ac ((aV a (⟨#[45]⟩:Zz)).2.1)).1),Wp ((ac ((aV a (⟨#[45]⟩:Zz)).2.1)).2)]] (AC b<|AD (V7 (rs':=[Wq ((ch a (⟨#[42,47]⟩:Zz)).1),Wp false]) (cb a (⟨#[42,47]⟩:Zz)) (by rw[d]))<|AD (V7 (rs':=[Wq ((aV a (⟨#[45]⟩:Zz)).1),Wq ((aV a (⟨#[45]⟩:Zz)).2.1),Wp true]) (fy a (⟨#[45]⟩:Zz) c) (by rw[f]))<|AD (bH ((aV a (⟨#[45]⟩:Zz)).1) e)<|AD (vz ((aV a (⟨#[45]⟩:Zz)).2.1))<|AN))
   ·apply V4<;>intro e
    ·apply V4<;>intro g
     ·apply V4<;>intro h
      ·exact VZ (DP Tryz.f165 [.b false,.ret [Wq ((ch a (⟨#[42,47]⟩:Zz)).1),Wp false],.ret [Wq ((aV a (⟨#[45]⟩:Zz)).1),Wq ((aV a (⟨#[45]⟩:Zz)).2.1),Wp false],.ret [Wo ((ac ((aV a (⟨#[45]⟩:Zz)).1)).1),Wp true],.b true,.b true] (AC b<|AD (V7 (rs':=[Wq ((ch a (⟨#[42,47]⟩:Zz)).1),Wp false]) (cb a (⟨#[42,47]⟩:Zz)) (by rw[d]))<|AD (V7 (rs':=[Wq ((aV a (⟨#[45]⟩:Zz)).1),Wq ((aV a (⟨#[45]⟩:Zz)).2.1),Wp false]) (fy a (⟨#[45]⟩:Zz) c) (by rw[f]))<|AD (bH ((aV a (⟨#[45]⟩:Zz)).1) e)<|AC g<|AC h<|AN))
      ·exact VZ (DP Tryz.f165 [.b false,.ret [Wq ((ch a (⟨#[42,47]⟩:Zz)).1),Wp false],.ret [Wq ((aV a (⟨#[45]⟩:Zz)).1),Wq ((aV a (⟨#[45]⟩:Zz)).2.1),Wp false],.ret [Wo ((ac ((aV a (⟨#[45]⟩:Zz)).1)).1),Wp true],.b true,.b false] (AC b<|AD (V7 (rs':=[Wq ((ch a (⟨#[42,47]⟩:Zz)).1),Wp false]) (cb a (⟨#[42,47]⟩:Zz)) (by rw[d]))<|AD (V7 (rs':=[Wq ((aV a (⟨#[45]⟩:Zz)).1),Wq ((aV a (⟨#[45]⟩:Zz)).2.1),Wp false]) (fy a (⟨#[45]⟩:Zz) c) (by rw[f]))<|AD (bH ((aV a (⟨#[45]⟩:Zz)).1) e)<|AC g<|AC h<|AN))
     ·exact VZ (DP Tryz.f165 [.b false,.ret [Wq ((ch a (⟨#[42,47]⟩:Zz)).1),Wp false],.ret [Wq ((aV a (⟨#[45]⟩:Zz)).1),Wq ((aV a (⟨#[45]⟩:Zz)).2.1),Wp false],.ret [Wo ((ac ((aV a (⟨#[45]⟩:Zz)).1)).1),Wp true],.b false] (AC b<|AD (V7 (rs':=[Wq ((ch a (⟨#[42,47]⟩:Zz)).1),Wp false]) (cb a (⟨#[42,47]⟩:Zz)) (by rw[d]))<|AD (V7 (rs':=[Wq ((aV a (⟨#[45]⟩:Zz)).1),Wq ((aV a (⟨#[45]⟩:Zz)).2.1),Wp false]) (fy a (⟨#[45]⟩:Zz) c) (by rw[f]))<|AD (bH ((aV a (⟨#[45]⟩:Zz)).1) e)<|AC g<|AN))
    ·exact VZ (DP Tryz.f165 [.b false,.ret [Wq ((ch a (⟨#[42,47]⟩:Zz)).1),Wp false],.ret [Wq ((aV a (⟨#[45]⟩:Zz)).1),Wq ((aV a (⟨#[45]⟩:Zz)).2.1),Wp false],.ret [Wo ((ac ((aV a (⟨#[45]⟩:Zz)).1)).1),Wp false]] (AC b<|AD (V7 (rs':=[Wq ((ch a (⟨#[42,47]⟩:Zz)).1),Wp false]) (cb a (⟨#[42,47]⟩:Zz)) (by rw[d]))<|AD (V7 (rs':=[Wq ((aV a (⟨#[45]⟩:Zz)).1),Wq ((aV a (⟨#[45]⟩:Zz)).2.1),Wp false]) (fy a (⟨#[45]⟩:Zz) c) (by rw[f]))<|AD (bH ((aV a (⟨#[45]⟩:Zz)).1) e)<|AN))
def AH (r:Int×Int×Int×Bool)(o:Option (Int×Int×Int)):Prop :=
 match o with|some (a,b,c)=>r=(a,b,c,true)|none=>r.2.2.2=false
noncomputable def yt (a:List (List UInt8))(lo hi:Int):Option (Int×Int×Int):=
 match a with
 |[p]=>if(ac (ofTx p)).2=true∧lo≤(ac (ofTx p)).1∧(ac (ofTx p)).1≤hi then some ((ac (ofTx p)).1,(ac (ofTx p)).1,1)else none
 |[p,q]=>if(ac (ofTx p)).2=true∧(ac (ofTx q)).2=true∧lo≤(ac (ofTx p)).1∧(ac (ofTx p)).1≤(ac (ofTx q)).1∧(ac (ofTx q)).1≤hi then some ((ac (ofTx p)).1,(ac (ofTx q)).1,1)else none
 |_=>none
theorem Ef (p:List UInt8)(lo hi:Int):yt [p] lo hi=if(ac (ofTx p)).2=true∧lo≤(ac (ofTx p)).1∧(ac (ofTx p)).1≤hi then some ((ac (ofTx p)).1,(ac (ofTx p)).1,1)else none:=rfl
theorem LF (p q:List UInt8)(lo hi:Int):yt [p,q] lo hi=if(ac (ofTx p)).2=true∧(ac (ofTx q)).2=true∧lo≤(ac (ofTx p)).1∧(ac (ofTx p)).1≤(ac (ofTx q)).1∧(ac (ofTx q)).1≤hi then some ((ac (ofTx p)).1,(ac (ofTx q)).1,1)else none:=rfl
theorem LG (p q r:List UInt8)(l:List (List UInt8))(lo hi:Int):yt (p::q::r::l) lo hi=none:=rfl
noncomputable def zu (s:Zz)(lo hi:Int):Option (Int×Int×Int):=if tx s=[42]then some (lo,hi,1) else if [42,47].isPrefixOf (tx s)=true then (if(ac (ofTx ((tx s).drop 2))).2=true∧1≤(ac (ofTx ((tx s).drop 2))).1 then some (lo,hi,(ac (ofTx ((tx s).drop 2))).1)else none) else yt (ci 45 (tx s)) lo hi
noncomputable def dH (s:Zz)(lo hi:Int):Int×Int×Int×Bool:=(np s lo hi).getD (0,0,0,false)
noncomputable def dG (s:Zz)(lo hi:Int):Int×Int×Int×Bool:=(oS s lo hi).getD (0,0,0,false)
theorem LH {o:Option (Int×Int×Int×Bool)}{p:Option (Int×Int×Int)}{d:Int×Int×Int×Bool}(h:∃r,o=some r∧AH r p):o=some (o.getD d)∧AH (o.getD d) p:=by obtain⟨r,rfl,h⟩:=h;exact⟨rfl,h⟩
theorem R9 (L:List Zz)(i:List (List UInt8))(n:L=i.map ofTx)(lo hi:Int)(m:∃x xs,i=x::xs):
  ∃r,((ar L 0).bind fun e=>cond ((ac e).2)
     (cond ((L.length:Int)==(2:Int))
      ((ar L 1).bind fun g1=>cond ((ac g1).2)
       (cond (decide ((L.length:Int)≤(2:Int)))
        (cond (decide (lo≤((ac e).1)))
         (cond (decide (((ac e).1)≤((ac g1).1)))
          (some ((ac e).1,(ac g1).1,1,decide (((ac g1).1)≤hi)))
          (some ((ac e).1,(ac g1).1,1,false)))
         (some ((ac e).1,(ac g1).1,1,false)))
        (some ((ac e).1,(ac g1).1,1,false)))
       (some ((ac e).1,(ac g1).1,1,false)))
      (cond (decide ((L.length:Int)≤(2:Int)))
       (cond (decide (lo≤((ac e).1)))
        (cond (decide (((ac e).1)≤((ac e).1)))
         (some ((ac e).1,(ac e).1,1,decide (((ac e).1)≤hi)))
         (some ((ac e).1,(ac e).1,1,false)))
        (some ((ac e).1,(ac e).1,1,false)))
       (some ((ac e).1,(ac e).1,1,false))))
     (cond ((L.length:Int)==(2:Int))
      ((ar L 1).bind fun g1=>some ((ac e).1,(ac g1).1,1,false))
      (some ((ac e).1,(ac e).1,1,false))))=some r∧AH r (yt i lo hi):=by
 subst n
 match i,m with
 |[p],_ =>
  have e:ar ([p].map ofTx) 0=some (ofTx p):=rfl;have j:((([p].map ofTx).length:Int)==2)=false:=rfl;have k:decide ((([p].map ofTx).length:Int)≤2)=true:=rfl;rw[e,j,k,Ef,Wy];simp only[WK,WO];generalize ac (ofTx p)=a;obtain⟨a,b⟩:=a;cases b with
  |false=>exact⟨_,rfl,by rw[WM (by simp)];exact rfl⟩
  |true =>
   rw[WK];by_cases f:lo≤a
   ·rw[WJ f,WK,WJ (XA _),WK];refine⟨_,rfl,?_⟩;by_cases g:a≤hi
    ·rw[WJ g,Wz ⟨rfl,f,g⟩];exact rfl
    ·rw[WH g,WM (fun h=>g h.2.2)];exact rfl
   ·rw[WH f];exact⟨_,rfl,by rw[WM (fun h=>f h.2.1)];exact rfl⟩
 |[p,q],_ =>
  have e:ar ([p,q].map ofTx) 0=some (ofTx p):=rfl;have g1:ar ([p,q].map ofTx) 1=some (ofTx q):=rfl;have j:((([p,q].map ofTx).length:Int)==2)=true:=rfl;have k:decide ((([p,q].map ofTx).length:Int)≤2)=true:=rfl;rw[e,g1,j,k,LF,Wy,Wy];simp only[WK,WO];generalize ac (ofTx p)=a;generalize ac (ofTx q)=c;obtain⟨a,b⟩:=a;obtain⟨c,d⟩:=c;cases b with
  |false=>exact⟨_,rfl,by rw[WM (by simp)];exact rfl⟩
  |true =>
   cases d with
   |false=>exact⟨_,rfl,by rw[WM (by simp)];exact rfl⟩
   |true =>
    rw[WK,WK];by_cases f:lo≤a
    ·rw[WJ f,WK];by_cases l:a≤c
     ·rw[WJ l,WK];refine⟨_,rfl,?_⟩;by_cases g:c≤hi
      ·rw[WJ g,Wz ⟨rfl,rfl,f,l,g⟩];exact rfl
      ·rw[WH g,WM (fun h=>g h.2.2.2.2)];exact rfl
     ·rw[WH l];exact⟨_,rfl,by rw[WM (fun h=>l h.2.2.2.1)];exact rfl⟩
    ·rw[WH f];exact⟨_,rfl,by rw[WM (fun h=>f h.2.2.1)];exact rfl⟩
 |p::q::t::i,_ =>
  have j:((((p::q::t::i).map ofTx).length:Int)==2)=false:=by rw[Xy];simp;omega
  have k:decide ((((p::q::t::i).map ofTx).length:Int)≤2)=false:=WH (by simp;omega);rw[j,k,LG];have e:ar ((p::q::t::i).map ofTx) 0=some (ofTx p):=rfl;rw[e,Wy];cases(ac (ofTx p)).2 with
  |false=>exact⟨_,rfl,rfl⟩
  |true=>exact⟨_,rfl,rfl⟩
theorem If (s:Zz)(lo hi:Int)(hs:s.size≤2000000):np s lo hi=some (dH s lo hi)∧AH (dH s lo hi) (zu s lo hi):=by
 refine LH ?_;unfold np zu;have j:tx (⟨#[42]⟩:Zz)=[42]:=rfl;have d:tx (⟨#[42,47]⟩:Zz)=[42,47]:=rfl;rw[me,j];by_cases h:tx s=[42]
 ·rw[WJ h,Wz h];exact⟨_,rfl,rfl⟩
 ·have n:(s.size≤2000000)=True:=Yz hs;have hc:((0:Int)≤45∧(45:Int)<256)=True:=Yz (by decide);have o:ao s 45=(ci 45 (tx s)).map ofTx:=rfl;have k:=R9 (ao s 45) (ci 45 (tx s)) o lo hi (ka _ _);rw[WH h,WM h,WO];simp only[n,hc,W8];have hz:=dQ s;by_cases f:2<s.size
  ·rw[WJ (by omega),WK,Wz (by omega),me,d,FX];have g:[42,47].isPrefixOf (tx s)=decide (seg (tx s) (0:Int).toNat (2:Int).toNat=[42,47]):=by
    obtain⟨a,b,l,e⟩:∃a b l,tx s=a::b::l:=by
     cases q:tx s with
     |nil=>rw[q]at hz;have:s.size=0:=hz;omega
     |cons a l =>
      cases l with
      |nil=>rw[q]at hz;have:s.size=1:=hz;omega
      |cons b l=>exact⟨a,b,l,rfl⟩
    have:seg (a::b::l) (0:Int).toNat (2:Int).toNat=[a,b]:=by simp[seg]
    have p:∀x y:UInt8,(x==y)=decide (y=x):=fun x y=>by
     by_cases h:y=x
     ·subst h;simp
     ·rw[WH h,Xy];exact fun e=>h e.symm
    rw[e,this];simp[List.isPrefixOf,p]
   rw[g];have t:s.extract (2:Int).toNat (s.size:Int).toNat=ofTx ((tx s).drop 2):=by rw[oO];unfold seg;rw[X1 (by omega)];rfl
   by_cases q:seg (tx s) (0:Int).toNat (2:Int).toNat=[42,47]
   ·rw[WJ q,WK,Wz rfl,Wz (by omega),t];generalize ac (ofTx ((tx s).drop 2))=a;obtain⟨a,b⟩:=a;cases b with
    |false=>exact⟨_,rfl,by rw[WM (by simp)];exact rfl⟩
    |true =>
     refine⟨_,rfl,?_⟩;by_cases z:1≤a
     ·rw[WJ (show a≥1 from z),Wz ⟨rfl,z⟩];exact rfl
     ·rw[WH (show ¬a≥1 from z),WM (fun h=>z h.2)];exact rfl
   ·rw[WH q,WO,WM (by simp)];exact k
  ·rw[WH (by omega),WO];by_cases q:[42,47].isPrefixOf (tx s)=true
   ·rw[Wz q];have e:tx s=[42,47]:=by
     cases w:tx s with
     |nil=>rw[w]at q;simp[List.isPrefixOf]at q
     |cons a l =>
      cases l with
      |nil=>rw[w]at q;simp[List.isPrefixOf]at q
      |cons b l =>
       cases l with
       |nil=>rw[w]at q;simp[List.isPrefixOf]at q;rw[←q.1, ←q.2]
       |cons c l=>rw[w]at hz;simp at hz;omega
    have hb:(ac (ofTx ((tx s).drop 2)))=(0,false):=by
     rw[e];show ac (ofTx [])=_;unfold ac;rw[WM (by decide)];have:¬tx (bI 0)=tx (ofTx []):=by unfold bI Lib.itoa;rw[WM (by omega),Lib.decDigits,dif_pos (by simp)];simp[tx,ofTx]
     show(if(1000000000:Int)<0 then _ else if _ then _ else _)=_;rw[WM (by decide),WM this]
    rw[hb,WM (by simp)];obtain⟨r,u,f⟩:=k;refine⟨r,u,?_⟩;rw[e]at f;have i:ci 45 ([42,47]:List UInt8)=[[42,47]]:=xI (by decide);rw[i,Ef]at f;have m:ac (ofTx [42,47])=(0,false):=Dl (b:=42) (by rw[yJ];simp) (by decide);simp only[m]at f;rw[WM (by simp)]at f;exact f
   ·rw[WM q];exact k
theorem Ie (s:Zz)(lo hi:Int)(hs:s.size≤2000000):oS s lo hi=some (dG s lo hi)∧AH (dG s lo hi) (zu s lo hi):=by
 refine LH ?_;unfold oS zu;have k:tx (⟨#[42]⟩:Zz)=[42]:=rfl;rw[me,k];by_cases h:tx s=[42]
 ·rw[WJ h,Wz h];exact⟨_,rfl,rfl⟩
 ·rw[WH h,WM h,WO];have l:(ch s (⟨#[42,47]⟩:Zz)).2=[42,47].isPrefixOf (tx s):=rfl;rw[l];by_cases q:[42,47].isPrefixOf (tx s)=true
  ·have m:(ch s (⟨#[42,47]⟩:Zz)).1=ofTx ((tx s).drop 2):=by show ofTx (Lib.trimPrefix (tx s) [42,47])=_;unfold Lib.trimPrefix Lib.hasPrefix;rw[Wz q];rfl
   rw[q,WK,Wz rfl,m];generalize ac (ofTx ((tx s).drop 2))=a;obtain⟨a,b⟩:=a;cases b with
   |false=>exact⟨_,rfl,by rw[WM (by simp)];exact rfl⟩
   |true =>
    refine⟨_,rfl,?_⟩;by_cases z:1≤a
    ·rw[WJ (show a≥1 from z),Wz ⟨rfl,z⟩];exact rfl
    ·rw[WH (show ¬a≥1 from z),WM (fun h=>z h.2)];exact rfl
  ·rw[WM q];rw[Ys]at q;rw[q,WO,Wz (by omega)];rcases Kq (tx s) 45 with⟨i,f,j⟩|⟨a,b,i,f,j,o⟩
   ·have n:aV s (⟨#[45]⟩:Zz)=(s,ofTx [],false):=by show(ofTx (Lib.cut (tx s) [45]).1,ofTx (Lib.cut (tx s) [45]).2.1,(Lib.cut (tx s) [45]).2.2)=_;rw[f];rfl
    rw[n,j,Ef];simp only[WO];rw[yn];generalize ac s=a;obtain⟨a,b⟩:=a;cases b with
    |false=>exact⟨_,rfl,by rw[WM (by simp)];exact rfl⟩
    |true =>
     rw[WK];by_cases i:lo≤a
     ·rw[WJ (show a≥lo from i),WK,WJ (XA _),WK];refine⟨_,rfl,?_⟩;by_cases f:a≤hi
      ·rw[WJ f,Wz ⟨rfl,i,f⟩];exact rfl
      ·rw[WH f,WM (fun h=>f h.2.2)];exact rfl
     ·rw[WH (show ¬a≥lo from i)];exact⟨_,rfl,by rw[WM (fun h=>i h.2.1)];exact rfl⟩
   ·have n:aV s (⟨#[45]⟩:Zz)=(ofTx a,ofTx b,true):=by show(ofTx (Lib.cut (tx s) [45]).1,ofTx (Lib.cut (tx s) [45]).2.1,(Lib.cut (tx s) [45]).2.2)=_;rw[j]
    rw[n,o];simp only[WK];by_cases hb:(45:UInt8)∈b
    ·have p:ac (ofTx b)=(0,false):=Dl (b:=45) (by rw[yJ];exact hb) (by decide);have r:∃x y z,ci 45 b=x::y::z:=by
      rcases Kq b 45 with⟨g,_⟩|⟨c,d,_,_,_,g⟩
      ·exact absurd hb g
      ·obtain⟨y,z,e⟩:=ka 45 d;exact⟨c,y,z,by rw[g,e]⟩
     obtain⟨x,y,z,e⟩:=r;rw[e,p,LG];cases(ac (ofTx a)).2 with
     |false=>exact⟨_,rfl,rfl⟩
     |true=>exact⟨_,rfl,rfl⟩
    ·rw[xI hb,LF];generalize ac (ofTx a)=a;generalize ac (ofTx b)=c;obtain⟨a,b⟩:=a;obtain⟨c,d⟩:=c;cases b with
     |false=>exact⟨_,rfl,by rw[WM (by simp)];exact rfl⟩
     |true =>
      cases d with
      |false=>exact⟨_,rfl,by rw[WM (by simp)];exact rfl⟩
      |true =>
       rw[WK,WK];by_cases i:lo≤a
       ·rw[WJ (show a≥lo from i),WK];by_cases j:a≤c
        ·rw[WJ j,WK];refine⟨_,rfl,?_⟩;by_cases f:c≤hi
         ·rw[WJ f,Wz ⟨rfl,rfl,i,j,f⟩];exact rfl
         ·rw[WH f,WM (fun h=>f h.2.2.2.2)];exact rfl
        ·rw[WH j];exact⟨_,rfl,by rw[WM (fun h=>j h.2.2.2.1)];exact rfl⟩
       ·rw[WH (show ¬a≥lo from i)];exact⟨_,rfl,by rw[WM (fun h=>i h.2.2.1)];exact rfl⟩
theorem To {s:Zz}{lo hi a b c:Int}(d:lo≤hi)(h:zu s lo hi=some (a,b,c)):lo≤a∧a≤b∧b≤hi∧1≤c∧c≤1000000000:=by
 unfold zu at h;split at h
 ·cases h;exact⟨XA _,d,XA _,XA _,by decide⟩
 ·split at h
  ·split at h
   ·rename_i z;have:=Qp (ofTx ((tx s).drop 2));cases h;exact⟨XA _,d,XA _,z.2,this.2⟩
   ·cases h
  ·unfold yt at h;split at h
   ·split at h
    ·rename_i z;cases h;exact⟨z.2.1,XA _,z.2.2,XA _,by decide⟩
    ·cases h
   ·split at h
    ·rename_i z;cases h;exact⟨z.2.2.1,z.2.2.2.1,z.2.2.2.2,XA _,by decide⟩
    ·cases h
   ·cases h
theorem Kc (a:Zz)(b:Int)(c:Int)(h:a.size≤2000000):Does E 128 [Wt a,Wr b,Wr c] [Wo ((dH a b c).1),Wo ((dH a b c).2.1),Wo ((dH a b c).2.2.1),Wp ((dH a b c).2.2.2)]:=by exact L8 a b c _ (If a b c h).1
theorem xA (a:Zz)(b:Int)(c:Int)(h:a.size≤2000000){e:Bool}(d:(dH a b c).2.2.2=e):Does E 128 [Wt a,Wr b,Wr c] [Wo ((dH a b c).1),Wo ((dH a b c).2.1),Wo ((dH a b c).2.2.1),Wp e]:=by rw[←d];exact Kc a b c h
theorem MJ (a:Zz)(b:Int)(c:Int)(h:a.size≤2000000):Does E 165 [Wt a,Wr b,Wr c] [Wo ((dG a b c).1),Wo ((dG a b c).2.1),Wo ((dG a b c).2.2.1),Wp ((dG a b c).2.2.2)]:=by exact Nn a b c _ (Ie a b c h).1
theorem zL (a:Zz)(b:Int)(c:Int)(h:a.size≤2000000){e:Bool}(d:(dG a b c).2.2.2=e):Does E 165 [Wt a,Wr b,Wr c] [Wo ((dG a b c).1),Wo ((dG a b c).2.1),Wo ((dG a b c).2.2.1),Wp e]:=by rw[←d];exact MJ a b c h
noncomputable def nH (a:Int):Option (Int×Int):=cond (a==(0:Int)) (some (0,59)) (cond (a==(1:Int)) (some (0,23)) (cond (a==(2:Int)) (some (1,31)) (cond (a==(3:Int)) (some (1,12)) (some (0,6)))))
theorem PP (d:Int):Ans (nH d) (fun r=>Does E 164 [Wr d] [Wo r.1,Wo r.2]):=by
 unfold nH;apply V4<;>intro a
 ·exact VZ (DP Tryz.f164 [.b true] (AC a<|AN))
 ·apply V4<;>intro b
  ·exact VZ (DP Tryz.f164 [.b false,.b true] (AC a<|AC b<|AN))
  ·apply V4<;>intro c
   ·exact VZ (DP Tryz.f164 [.b false,.b false,.b true] (AC a<|AC b<|AC c<|AN))
   ·apply V4<;>intro e
    ·exact VZ (DP Tryz.f164 [.b false,.b false,.b false,.b true] (AC a<|AC b<|AC c<|AC e<|AN))
    ·exact VZ (DP Tryz.f164 [.b false,.b false,.b false,.b false] (AC a<|AC b<|AC c<|AC e<|AN))
noncomputable def aR (i:Int):Int×Int:=(nH i).getD (0,0)
theorem Pc (i:Int):nH i=some (aR i):=by refine Tot.getD ?_ _;unfold nH;repeat' (first|exact Tot.some _|apply Tot.cond)
theorem Q1 (i:Int):0≤(aR i).1∧(aR i).1≤(aR i).2∧(aR i).2≤59:=by unfold aR nH;cases i==0<;>cases i==1<;>cases i==2<;>cases i==3<;>exact⟨by decide,by decide,by decide⟩
theorem cI (a:Int):Does E 164 [Wr a] [Wo ((aR a).1),Wo ((aR a).2)]:=by exact PP a _ (Pc a)
inductive Ap where|x4 (v16:List Int)
def ki (v2:Int)(v8:List Bool)(v16:List Int)(a:Int):US:=stL 70 [(2,Wr v2),(8,.one (Ww 1 (v8.map etB))),(16,.one (Ww 1 (v16.map etI))),(17,Wr a)]
def rh (a:List Int):US:=stL 70 [(16,.one (Ww 1 (a.map etI)))]
abbrev tF:US→Exit→US→Prop:=Round E 110 (aq Tryz.f110 2)
def Jy (v2:Int)(v8:List Bool)(v16:List Int)(b:Int):Ap→Prop| .x4 a=>Loops E 110 (aq Tryz.f110 2) (ki v2 v8 v16 b) (.exit 4) (rh a)
noncomputable def hJ (v2:Int)(v8:List Bool):Nat→(List Int)→Int→Option Ap| 0,_,_=>none|n+1,v16,a=>cond (decide (a≤v2)) ((ar v8 a).bind fun b=>cond (b) (if(v16.length+([a]).length)*8≤140737488355328∧v16.length+([a]).length≤4611686018427387904 then hJ v2 v8 n (v16++([a])) (inc a)else none) (hJ v2 v8 n v16 (inc a))) (some (.x4 v16))
theorem Jv (v2:Int)(v8:List Bool)(n:Nat):∀(v16:List Int)(a:Int),Ans (hJ v2 v8 n v16 a) (Jy v2 v8 v16 a):=by
 induction n with
 |zero=>intros;exact Ans.none
 |succ n e =>
  intro v16 a;unfold hJ;apply V4<;>intro c
  ·apply V5;intro f b;apply V4<;>intro g
   ·apply V6;intro h;have r:tF (ki v2 v8 v16 a) .normal (ki v2 v8 (v16++([a])) (inc a)):=RP [.b true,.row ([tB true]),.rows ((v16++([a])).map etI)] (AC c<|AC (p:=0≤a∧a<((v8.map etB).length:Int)) (di b)<|AC (p:=(v8.map etB)[0+a.toNat]?=some ([tB true])) ((bC b).trans (WV some (show [tB f]=[tB true] by rw[g])))<|AAp etI (fun _=>rfl) h<|AN);exact(e (v16++([a])) (inc a)).mono fun y d=>by cases y<;>exact V2 r d
   ·have r:tF (ki v2 v8 v16 a) .normal (ki v2 v8 v16 (inc a)):=RP [.b true,.row ([tB false])] (AC c<|AC (p:=0≤a∧a<((v8.map etB).length:Int)) (di b)<|AC (p:=(v8.map etB)[0+a.toNat]?=some ([tB false])) ((bC b).trans (WV some (show [tB f]=[tB false] by rw[g])))<|AN);exact(e v16 (inc a)).mono fun y d=>by cases y<;>exact V2 r d
  ·exact VZ (V3 (show tF (ki v2 v8 v16 a) (.exit 4) (rh v16)from RP [.b false] (AC c<|AN)))
inductive Ao where|x2 (v8:List Bool)
def pq (v1 v2:Int)(v8:List Bool)(v9:List Zz)(v10 a b c:Int):US:=stL 70 [(1,Wr v1),(2,Wr v2),(8,.one (Ww 1 (v8.map etB))),(9,.one (Ww 1 (v9.map etS))),(10,Wr v10),(12,Wr a),(13,Wr b),(15,Wr c)]
def rg (v1 v2:Int)(v9:List Zz)(v10:Int)(a:List Bool):US:=stL 70 [(1,Wr v1),(2,Wr v2),(8,.one (Ww 1 (a.map etB))),(9,.one (Ww 1 (v9.map etS))),(10,Wr v10)]
abbrev Al:US→Exit→US→Prop:=Round E 110 (aq Tryz.f110 1)
def Jx (v1 v2:Int)(v8:List Bool)(v9:List Zz)(v10 a b c:Int):Ao→Prop| .x2 d=>Loops E 110 (aq Tryz.f110 1) (pq v1 v2 v8 v9 v10 a b c) (.exit 2) (rg v1 v2 v9 v10 d)
noncomputable def kj (b c:Int):Nat→(List Bool)→Int→Option Ao| 0,_,_=>none|n+1,v8,a=>cond (decide (a≤b)) ((ar v8 a).bind fun d=>kj b c n (v8.set a.toNat true) (IntKind.wrap .i64 (a+c))) (some (.x2 v8))
theorem Ju (v1 v2:Int)(v9:List Zz)(v10 c b:Int)(n:Nat):∀(v8:List Bool)(a:Int),Ans (kj c b n v8 a) (Jx v1 v2 v8 v9 v10 c b a):=by
 induction n with
 |zero=>intros;exact Ans.none
 |succ n f =>
  intro v8 a;unfold kj;apply V4<;>intro d
  ·apply V5;intro e g;have r:Al (pq v1 v2 v8 v9 v10 c b a) .normal (pq v1 v2 (v8.set a.toNat true) v9 v10 c b (IntKind.wrap .i64 (a+b))):=RP [.b true,.row (etB e),.rows ((v8.set a.toNat true).map etB)] (AC d<|AG etB g<|AC (p:=(v8.map etB).set (0+a.toNat) (au (etB e) 0 [tB true])=(v8.set a.toNat true).map etB) (cu (by rfl))<|AN);exact(f (v8.set a.toNat true) (IntKind.wrap .i64 (a+b))).mono fun y h=>by cases y<;>exact V2 r h
  ·exact VZ (V3 (show Al (pq v1 v2 v8 v9 v10 c b a) (.exit 2) (rg v1 v2 v9 v10 v8)from RP [.b false] (AC d<|AN)))
inductive An where|ret (v6:List Int) (v7:Bool)|x0 (v8:List Bool)
def kh (v1 v2:Int)(v8:List Bool)(v9:List Zz)(v10:Int):US:=stL 70 [(1,Wr v1),(2,Wr v2),(8,.one (Ww 1 (v8.map etB))),(9,.one (Ww 1 (v9.map etS))),(10,Wr v10)]
def pT (a:List Int)(b:Bool):US:=stL 70 [(6,.one (Ww 1 (a.map etI))),(7,Ws b)]
def rf (v1 v2:Int)(a:List Bool):US:=stL 70 [(1,Wr v1),(2,Wr v2),(8,.one (Ww 1 (a.map etB)))]
abbrev tE:US→Exit→US→Prop:=Round E 110 (aq Tryz.f110 0)
def Jw (v1 v2:Int)(v8:List Bool)(v9:List Zz)(v10:Int):An→Prop| .ret a b=>Loops E 110 (aq Tryz.f110 0) (kh v1 v2 v8 v9 v10) .ret (pT a b)| .x0 c=>Loops E 110 (aq Tryz.f110 0) (kh v1 v2 v8 v9 v10) (.exit 0) (rf v1 v2 c)
noncomputable def fE (v1 v2:Int):List Zz→Nat→(List Bool)→Option An
 |[],i,v8=>some (.x0 v8)
 |hd::rest,i,v8=>if hd.size≤2000000 then cond ((dH hd v1 v2).2.2.2)
  ((kj ((dH hd v1 v2).2.1) ((dH hd v1 v2).2.2.1) 9223372036854775808 v8 ((dH hd v1 v2).1)).bind fun y=>match y with
   | .x2 a=>(fE v1 v2 rest (i+1) a))
  (some (.ret ([]) false))else none
theorem Jt (v1 v2:Int)(v9:List Zz)(rest:List Zz):∀(i:Nat)(v8:List Bool),(v9).drop i=rest→v9.length≤9223372036854775807→Ans (fE v1 v2 rest i v8) (Jw v1 v2 v8 v9 (i:Int)):=by
 induction rest with
 |nil =>intro i v8 b d;have hb:=aP b;unfold fE;exact VZ (V3 (show tE (kh v1 v2 v8 v9 (i:Int)) (.exit 0) (rf v1 v2 v8)from RP [Wu (v9.length:Int),.b false] (ALn v9 etS<|AC hb<|AN)))
 |cons hd rest j =>
  intro i v8 b d;have hb:=aI b;have k:=aJ b d;have e:=az b;have f:=aK b;unfold fE;apply V6;intro g;apply V4<;>intro h
  ·apply V5;intro y c;replace c:=Ju v1 v2 v9 (i:Int) ((dH hd v1 v2).2.1) ((dH hd v1 v2).2.2.1) 9223372036854775808 v8 ((dH hd v1 v2).1) y c;cases y with
   |x2 a =>have l:=c;exact(j (i+1) a e d).mono fun y c=>by have r:tE (kh v1 v2 v8 v9 (i:Int)) .normal (kh v1 v2 a v9 (inc (i:Int))):=RP [Wu (v9.length:Int),.b true,.row (etS hd),.ret [Wo ((dH hd v1 v2).1),Wo ((dH hd v1 v2).2.1),Wo ((dH hd v1 v2).2.2.1),Wp true],.lp (.exit 2) (rg v1 v2 v9 (i:Int) a)] (ALn v9 etS<|AC hb<|AG etS f<|AD (xA hd v1 v2 g h)<|AL l<|AN);rw[k]at r;cases y<;>exact V2 r c
  ·exact VZ (V3 (show tE (kh v1 v2 v8 v9 (i:Int)) .ret (pT ([]) false)from RP [Wu (v9.length:Int),.b true,.row (etS hd),.ret [Wo ((dH hd v1 v2).1),Wo ((dH hd v1 v2).2.1),Wo ((dH hd v1 v2).2.2.1),Wp false]] (ALn v9 etS<|AC hb<|AG etS f<|AD (xA hd v1 v2 g h)<|AN)))
noncomputable def jX (f:Zz)(g a:Int):Option ((List Int)×Bool):=
  if 0≤(inc a)∧(inc a)≤(inc a)∧((1:Nat):Int)*(inc a)≤281474976710656∧(inc a)≤4611686018427387904 then if f.size≤2000000 then if 0≤(44:Int)∧(44:Int)<256 then if(ao f 44).length≤9223372036854775807 then(fE g a (ao f 44) 0 (List.replicate (inc a).toNat false)).bind fun y=>match y with
   | .ret c d=>(some (c,d))
   | .x0 e=>((hJ a e 9223372036854775808 ([]) g).bind fun y=>match y with
    | .x4 b=>(some (b,true)))else none else none else none else none
abbrev a7 (a:Int):=List.replicate (inc a).toNat false
theorem L5 (x0:Zz)(e a:Int):Ans (jX x0 e a) (fun r=>Does E 110 [Wt x0,Wr e,Wr a] [(false,[Ww 1 (r.1.map etI)]),Wp r.2]):=by
 unfold jX;apply V6;intro j;apply V6;intro k;apply V6;intro l;apply V6;intro h;apply V5;intro y b;replace b:=Jt e a (ao x0 44) (ao x0 44) 0 (a7 a) rfl h y b;cases y with
 |ret f g =>have i:=b;exact VZ (DP Tryz.f110 [.rows ((a7 a).map etB),.ret [(false,[Ww 1 ((ao x0 44).map etS)])],.lp .ret (pT f g)] (AC j<|AC (p:=List.replicate (inc a).toNat [tB false]=(a7 a).map etB) (nj rfl)<|AD (bp x0 44 k l)<|AL i<|AN))
 |x0 c =>
  have i:=b;apply V5;intro y b;replace b:=Jv a c 9223372036854775808 ([]) e y b;cases y with
  |x4 d =>have m:=b;exact VZ (DP Tryz.f110 [.rows ((a7 a).map etB),.ret [(false,[Ww 1 ((ao x0 44).map etS)])],.lp (.exit 0) (rf e a c),.lp (.exit 4) (rh d)] (AC j<|AC (p:=List.replicate (inc a).toNat [tB false]=(a7 a).map etB) (nj rfl)<|AD (bp x0 44 k l)<|AL i<|AL m<|AN))
inductive vX where|x2 (v8:List Int)
def mL (v6 v7:Int)(v8:List Int)(a b c:Int)(v22:List Zz)(d v24:Int):US:=stL 56 [(6,Wr v6),(7,Wr v7),(8,.one (Ww 1 (v8.map etI))),(12,Wr a),(13,Wr b),(15,Wr c),(22,.one (Ww 1 (v22.map etS))),(23,Wr d),(24,Wr v24)]
def oz (v6 v7:Int)(v22:List Zz)(a v24:Int)(b:List Int):US:=stL 56 [(6,Wr v6),(7,Wr v7),(8,.one (Ww 1 (b.map etI))),(22,.one (Ww 1 (v22.map etS))),(23,Wr a),(24,Wr v24)]
abbrev vV:US→Exit→US→Prop:=Round E 152 (aq Tryz.f152 1)
def Ff (v6 v7:Int)(v8:List Int)(b c d:Int)(v22:List Zz)(a v24:Int):vX→Prop| .x2 e=>Loops E 152 (aq Tryz.f152 1) (mL v6 v7 v8 b c d v22 a v24) (.exit 2) (oz v6 v7 v22 a v24 e)
noncomputable def iV (b c:Int):Nat→(List Int)→Int→Option vX| 0,_,_=>none|n+1,v8,a=>cond (decide (a≤b)) (if(v8.length+([a]).length)*8≤140737488355328∧v8.length+([a]).length≤4611686018427387904 then iV b c n (v8++([a])) (IntKind.wrap .i64 (a+c))else none) (some (.x2 v8))
theorem Fd (v6 v7 c b:Int)(v22:List Zz)(d v24:Int)(n:Nat):∀(v8:List Int)(a:Int),Ans (iV c b n v8 a) (Ff v6 v7 v8 c b a v22 d v24):=by
 induction n with
 |zero=>intros;exact Ans.none
 |succ n f =>
  intro v8 a;unfold iV;apply V4<;>intro e
  ·apply V6;intro g;have r:vV (mL v6 v7 v8 c b a v22 d v24) .normal (mL v6 v7 (v8++([a])) c b (IntKind.wrap .i64 (a+b)) v22 d v24):=RP [.b true,.rows ((v8++([a])).map etI)] (AC e<|AAp etI (fun _=>rfl) g<|AN);exact(f (v8++([a])) (IntKind.wrap .i64 (a+b))).mono fun y h=>by cases y<;>exact V2 r h
  ·exact VZ (V3 (show vV (mL v6 v7 v8 c b a v22 d v24) (.exit 2) (oz v6 v7 v22 d v24 v8)from RP [.b false] (AC e<|AN)))
inductive vW where|ret (v4:List Int) (v5:Bool)|x0 (v8:List Int)
def iU (v6 v7:Int)(v8:List Int)(v22:List Zz)(a v24:Int):US:=stL 56 [(6,Wr v6),(7,Wr v7),(8,.one (Ww 1 (v8.map etI))),(22,.one (Ww 1 (v22.map etS))),(23,Wr a),(24,Wr v24)]
def m8 (a:List Int)(b:Bool):US:=stL 56 [(4,.one (Ww 1 (a.map etI))),(5,Ws b)]
def oy (a:List Int):US:=stL 56 [(8,.one (Ww 1 (a.map etI)))]
abbrev qF:US→Exit→US→Prop:=Round E 152 (aq Tryz.f152 0)
def Fe (v6 v7:Int)(v8:List Int)(v22:List Zz)(a v24:Int):vW→Prop| .ret b c=>Loops E 152 (aq Tryz.f152 0) (iU v6 v7 v8 v22 a v24) .ret (m8 b c)| .x0 d=>Loops E 152 (aq Tryz.f152 0) (iU v6 v7 v8 v22 a v24) (.exit 0) (oy d)
noncomputable def dY (v6 v7:Int):List Zz→Nat→(List Int)→Option vW
 |[],i,v8=>some (.x0 v8)
 |hd::rest,i,v8=>if hd.size≤2000000 then cond ((dG hd v6 v7).2.2.2)
  ((iV ((dG hd v6 v7).2.1) ((dG hd v6 v7).2.2.1) 9223372036854775808 v8 ((dG hd v6 v7).1)).bind fun y=>match y with
   | .x2 a=>(dY v6 v7 rest (i+1) a))
  (some (.ret ([]) false))else none
theorem Fc (v6 v7:Int)(v22:List Zz)(rest:List Zz):∀(i:Nat)(v8:List Int),(v22).drop i=rest→v22.length≤9223372036854775807→Ans (dY v6 v7 rest i v8) (Fe v6 v7 v8 v22 (v22.length:Int) (i:Int)):=by
 induction rest with
 |nil =>intro i v8 b d;have hb:=aP b;unfold dY;exact VZ (V3 (show qF (iU v6 v7 v8 v22 (v22.length:Int) (i:Int)) (.exit 0) (oy v8)from RP [.b false] (AC hb<|AN)))
 |cons hd rest j =>
  intro i v8 b d;have hb:=aI b;have k:=aJ b d;have e:=az b;have f:=aK b;unfold dY;apply V6;intro g;apply V4<;>intro h
  ·apply V5;intro y c;replace c:=Fd v6 v7 ((dG hd v6 v7).2.1) ((dG hd v6 v7).2.2.1) v22 (v22.length:Int) (i:Int) 9223372036854775808 v8 ((dG hd v6 v7).1) y c;cases y with
   |x2 a =>have l:=c;exact(j (i+1) a e d).mono fun y c=>by have r:qF (iU v6 v7 v8 v22 (v22.length:Int) (i:Int)) .normal (iU v6 v7 a v22 (v22.length:Int) (inc (i:Int))):=RP [.b true,.row (etS hd),.ret [Wo ((dG hd v6 v7).1),Wo ((dG hd v6 v7).2.1),Wo ((dG hd v6 v7).2.2.1),Wp true],.lp (.exit 2) (oz v6 v7 v22 (v22.length:Int) (i:Int) a)] (AC hb<|AG etS f<|AD (zL hd v6 v7 g h)<|AL l<|AN);rw[k]at r;cases y<;>exact V2 r c
  ·exact VZ (V3 (show qF (iU v6 v7 v8 v22 (v22.length:Int) (i:Int)) .ret (m8 ([]) false)from RP [.b true,.row (etS hd),.ret [Wo ((dG hd v6 v7).1),Wo ((dG hd v6 v7).2.1),Wo ((dG hd v6 v7).2.2.1),Wp false]] (AC hb<|AG etS f<|AD (zL hd v6 v7 g h)<|AN)))
noncomputable def jF (d:Zz)(e:Int):Option ((List Int)×Bool):=
  if d.size<4294967281 then if 1≤(⟨#[44]⟩:Zz).size then if(eX d (⟨#[44]⟩:Zz)).length≤9223372036854775807 then(dY ((aR e).1) ((aR e).2) (eX d (⟨#[44]⟩:Zz)) 0 ([])).bind fun y=>match y with
   | .ret b c=>(some (b,c))
   | .x0 a=>(if a.length<4611686018427387904 then if(dj a).length≤9223372036854775807 then some (id (kM (dj a)),true)else none else none)else none else none else none
theorem Gw (x0:Zz)(b:Int):Ans (jF x0 b) (fun r=>Does E 152 [Wt x0,Wr b] [(false,[Ww 1 (r.1.map etI)]),Wp r.2]):=by
 unfold jF;apply V6;intro h;apply V6;intro i;apply V6;intro f;apply V5;intro y e;replace e:=Fc ((aR b).1) ((aR b).2) (eX x0 (⟨#[44]⟩:Zz)) (eX x0 (⟨#[44]⟩:Zz)) 0 ([]) rfl f y e;cases y with
 |ret c d =>have g:=e;exact VZ (DP Tryz.f152 [.ret [Wo ((aR b).1),Wo ((aR b).2)],.ret [(false,[Ww 1 ((eX x0 (⟨#[44]⟩:Zz)).map etS)])],Wu ((eX x0 (⟨#[44]⟩:Zz)).length:Int),.lp .ret (m8 c d)] (AD (cI b)<|AD (mH x0 (⟨#[44]⟩:Zz) h i)<|ALn (eX x0 (⟨#[44]⟩:Zz)) etS<|AL g<|AN))
 |x0 a =>have g:=e;apply V6;intro j;apply V6;intro l;exact VZ (DP Tryz.f152 [.ret [Wo ((aR b).1),Wo ((aR b).2)],.ret [(false,[Ww 1 ((eX x0 (⟨#[44]⟩:Zz)).map etS)])],Wu ((eX x0 (⟨#[44]⟩:Zz)).length:Int),.lp (.exit 0) (oy a),.ret [(false,[Ww 1 ((dj a).map etI)])],.ret [(false,[.any]),(false,[Ww 1 ((kM (dj a)).map etI)])],.ret [(false,[.any]),(false,[Ww 1 ((id (kM (dj a))).map etI)])]] (AD (cI b)<|AD (mH x0 (⟨#[44]⟩:Zz) h i)<|ALn (eX x0 (⟨#[44]⟩:Zz)) etS<|AL g<|AC (p:=(a.map etI).length=(a.map etI).length) rfl<|AV (ψ:=fun k=>E.C k 105 [.one (Ww 1 (a.map etI))]=some [(false,[Ww 1 ((dj a).map etI)])]) (ow a j)<|AV (ψ:=fun k=>E.C k 167 [.one (Ww 1 ((dj a).map etI))]=some [(false,[.any]),(false,[Ww 1 ((kM (dj a)).map etI)])]) (yO (dj a) l)<|AV (ψ:=fun k=>E.C k 166 [.one (Ww 1 ((kM (dj a)).map etI))]=some [(false,[.any]),(false,[Ww 1 ((id (kM (dj a))).map etI)])]) (CD (kM (dj a)))<|AN))
def Marks (lo hi:Int)(a:List Bool)(l:List Int):Prop :=(a.length:Int)=hi+1∧(∀x∈l,lo≤x∧x≤hi)∧∀j:Nat,(j:Int)≤hi→(a[j]?=some true↔(j:Int)∈l)
theorem Marks.add {lo hi:Int}{a:List Bool}{l:List Int}(h:Marks lo hi a l)(i:0≤lo){x:Int}(b:lo≤x∧x≤hi):Marks lo hi (a.set x.toNat true) (l++[x]):=by
 obtain⟨c,d,f⟩:=h;refine⟨by rw[Yj];exact c,fun y hy=>?_,fun j g=>?_⟩
 ·rcases W5.1 hy with hy|hy
  ·exact d y hy
  ·rw[WG]at hy;subst hy;exact b
 ·rw[W5,WG,Zq];by_cases e:x.toNat=j
  ·rw[Wz e,Wz (by omega)];exact⟨fun _=>.inr (by omega),fun _=>rfl⟩
  ·rw[WM e,f j g];exact⟨.inl,fun h=>h.resolve_right (by omega)⟩
theorem LR (lo hi b st:Int)(m:0≤lo)(f:hi≤59)(hb:b≤hi)(o:1≤st)(p:st≤1000000000):∀(k n:Nat)(a:Int)(c:List Bool)(l:List Int),(b-a+1).toNat≤k→k<n→lo≤a→a≤1000000100→Marks lo hi c l→l.length+k≤1000000000 →
  ∃d l',kj b st n c a=some (.x2 d)∧iV b st n l a=some (.x2 l')∧Marks lo hi d l'∧l'.length≤l.length+k∧(a≤b∨l≠[]→l'≠[])
 |k,0,a,c,l,_,r,_,_,_,_=>by omega
 |k,n+1,a,c,l,z,r,A,s,i,B=>by
  unfold kj iV;by_cases q:a≤b
  ·obtain⟨g,t,_⟩:=eK (l:=c) (k:=a) (by have:=i.1;omega);obtain⟨k,rfl⟩:∃j,k=j+1:=⟨k-1,by omega⟩
   have e:IntKind.wrap .i64 (a+st)=a+st:=dR _ (by omega) (by omega);obtain⟨d,l',u,v,w,x,y⟩:=LR lo hi b st m f hb o p k n (a+st) (c.set a.toNat true) (l++[a]) (by omega) (by omega) (by omega) (by omega) (i.add m (by omega)) (by simp;omega);refine⟨d,l',?_,?_,w,by simp at x;omega,fun _=>y (.inr (by simp))⟩
   ·rw[WJ q,WK,t,Wy,e];exact u
   ·rw[WJ q,WK,Wz (by simp;omega),e];exact v
  ·rw[WH q];exact⟨c,l,rfl,rfl,i,by omega,fun h=>h.resolve_left q⟩
theorem C2 (lo hi:Int)(s:0≤lo)(k:lo≤hi)(m:hi≤59):∀(f:List Zz)(i:Nat)(c:List Bool)(l:List Int),(∀p∈f,p.size≤2000000)→Marks lo hi c l→l.length+f.length*60≤1000000000 →
  (fE lo hi f i c=some (.ret [] false)∧dY lo hi f i l=some (.ret [] false)) ∨
  ∃d l',fE lo hi f i c=some (.x0 d)∧dY lo hi f i l=some (.x0 l')∧Marks lo hi d l'∧l'.length≤l.length+f.length*60∧(f≠[]∨l≠[]→l'≠[])
 |[],i,c,l,_,o,_=>.inr ⟨c,l,rfl,rfl,o,by simp,fun h=>h.resolve_left fun h=>h rfl⟩
 |p::f,i,c,l,t,o,u=>by
  have q:=t p (by simp);obtain⟨-,g⟩:=If p lo hi q;obtain⟨-,j⟩:=Ie p lo hi q;unfold fE dY;simp only[Wz q];cases e:zu p lo hi with
  |none =>rw[e]at g j;have g:(dH p lo hi).2.2.2=false:=g;have j:(dG p lo hi).2.2.2=false:=j;rw[g,j];exact .inl ⟨rfl,rfl⟩
  |some x =>
   obtain⟨a,b,st⟩:=x;rw[e]at g j;have g:dH p lo hi=(a,b,st,true):=g;have j:dG p lo hi=(a,b,st,true):=j;obtain⟨v,a2,a3,a4,a5⟩:=To k e;simp only[W4]at u;obtain⟨d,l',w,y,z,D,A⟩:=LR lo hi b st s m a3 a4 a5 60 9223372036854775808 a c l (by omega) (by omega) v (by omega) o (by omega);rw[g,j];simp only[WK,w,y,Wy];rcases C2 lo hi s k m f (i+1) d l' (fun p r=>t p (by simp[r])) z (by omega)with h|⟨n,l2,g1,B,g3,g4,C⟩
   ·exact .inl h
   ·exact .inr ⟨n,l2,g1,B,g3,by rw[W4];omega,fun _=>C (.inr (A (.inl a2)))⟩
theorem Qn (hi:Int)(c:List Bool)(hh:(c.length:Int)=hi+1)(d:hi≤59):∀(k n:Nat)(x:Int)(v:List Int),(hi-x+1).toNat≤k→k<n→0≤x→x≤100→v.length+k≤1000→v.Pairwise (· < ·)→(∀y∈v,y<x) →
  ∃w,hJ hi c n v x=some (.x4 w)∧w.Pairwise (· < ·)∧∀y,y∈w↔y∈v∨(x≤y∧y≤hi∧c[y.toNat]?=some true)
 |k,0,x,v,_,u,_,_,_,_,_=>by omega
 |k,n+1,x,v,C,u,D,A,F,i,m=>by
  unfold hJ;by_cases q:x≤hi
  ·obtain⟨g,t,_⟩:=eK (l:=c) (k:=x) (by omega);have f:=(lI t).2;obtain⟨k,rfl⟩:∃j,k=j+1:=⟨k-1,by omega⟩
   have e:inc x=x+1:=cr _ (by omega) (by omega);rw[WJ q,WK,t,Wy];cases g with
   |true =>
    obtain⟨w,o,p,r⟩:=Qn hi c hh d k n (x+1) (v++[x]) (by omega) (by omega) (by omega) (by omega) (by simp;omega)
     (by rw[YL];exact⟨i,by simp,fun a B b hb=>by rw[WG]at hb;subst hb;exact m a B⟩)
     (fun y s=>by rcases W5.1 s with h|h;have:=m y h;omega;rw[WG]at h;omega)
    refine⟨w,by rw[WK,Wz (by simp;omega),e];exact o,p,fun y=>?_⟩;rw[r,W5,WG];constructor
    ·rintro((h|rfl)|h)
     ·exact .inl h
     ·exact .inr ⟨XA _,q,f⟩
     ·exact .inr ⟨by omega,h.2⟩
    ·rintro(h|h)
     ·exact .inl (.inl h)
     ·by_cases z:y=x
      ·exact .inl (.inr z)
      ·exact .inr ⟨by omega,h.2⟩
   |false =>
    obtain⟨w,o,p,r⟩:=Qn hi c hh d k n (x+1) v (by omega) (by omega) (by omega) (by omega) (by omega) i (fun y s=>by have:=m y s;omega);refine⟨w,by rw[WO,e];exact o,p,fun y=>?_⟩;rw[r];constructor
    ·rintro(h|h)
     ·exact .inl h
     ·exact .inr ⟨by omega,h.2⟩
    ·rintro(h|h)
     ·exact .inl h
     ·by_cases z:y=x
      ·subst z;rw[f]at h;exact absurd h.2.2 (by simp)
      ·exact .inr ⟨by omega,h.2⟩
  ·rw[WH q];exact⟨v,rfl,i,fun y=>⟨.inl,fun h=>h.resolve_right fun h=>by omega⟩⟩
theorem zy (lo hi:Int):∀(l:List Int)(a:Int),l.Pairwise (· < ·)→(∀x∈l,a≤x∧x≤hi)→a≤hi+1→(l.length:Int)≤hi+1-a
 |[],a,_,_,h=>by simp;omega
 |x::l,a,b,c,h=>by rw[Zi]at b;have:=c x (by simp);have:=zy lo hi l (x+1) b.2 (fun y d=>⟨by have:=b.1 y d;omega,(c y (by simp[d])).2⟩) (by omega);simp;omega
noncomputable def aj (s:Zz)(lo hi:Int):List Int×Bool:=(jX s lo hi).getD ([],false)
noncomputable def be (s:Zz)(i:Int):List Int×Bool:=aj s (aR i).1 (aR i).2
def QR (lo hi:Int)(r:List Int×Bool):Prop:=(r.2=false∧r.1=[])∨(r.2=true∧r.1.Pairwise (· < ·)∧r.1≠[]∧(∀x∈r.1,lo≤x∧x≤hi)∧r.1.length≤60)
theorem DO (s:Zz)(lo hi:Int)(hs:s.size≤2000000)(hb:0≤lo∧lo≤hi∧hi≤59):jX s lo hi=some (aj s lo hi)∧QR lo hi (aj s lo hi)∧∀i,aR i=(lo,hi)→jF s i=some (aj s lo hi):=by
 obtain⟨M,C,f⟩:=hb;have g:inc hi=hi+1:=cr _ (by omega) (by omega);have S:=DJ 44 (tx s);rw[←dQ]at S;have B:ao s 44=(ci 44 (tx s)).map ofTx:=rfl;have N:(ao s 44).length≤2000001:=by rw[B,W6];omega
 have D:∀p∈ao s 44,p.size≤2000000:=fun p O=>by rw[B]at O;obtain⟨x,k,rfl⟩:=WU.1 O;have:=DK _ _ x k;rw[sV];rw[←dQ]at this;omega
 have U:Marks lo hi (List.replicate (inc hi).toNat false) []:=by refine⟨by rw[List.length_replicate,g];omega,fun x k=>(by cases k),fun j hj=>?_⟩;rw[YC,Wz (by omega)];simp
 have F:ao s 44≠[]:=by obtain⟨x,xs,e⟩:=ka 44 (tx s);rw[B,e];simp
 have hc:((0:Int)≤44∧(44:Int)<256)=True:=Yz (by decide);have pre:(s.size≤2000000)=True:=Yz hs;have P:∀i,aR i=(lo,hi)→∀r,(dY lo hi (ao s 44) 0 []).bind (fun y=>match y with
   | .ret m n=>(some (m,n))
   | .x0 a=>(if a.length<4611686018427387904 then if(dj a).length≤9223372036854775807 then some (id (kM (dj a)),true)else none else none))=some r→jF s i=some r:=fun i hi r V=>by
  unfold jF;rw[Wz (by omega),Wz (by decide),FR, ←B,Wz (by omega),hi];exact V
 have d:jX s lo hi=(fE lo hi (ao s 44) 0 (List.replicate (inc hi).toNat false)).bind fun y=>match y with
   | .ret o u=>(some (o,u))
   | .x0 a=>((hJ hi a 9223372036854775808 ([]) lo).bind fun y=>match y with
    | .x4 c=>(some (c,true))):=by
  unfold jX;simp only[hc,pre,W8];rw[Wz (by omega),Wz (by omega)]
 rcases C2 lo hi M C f (ao s 44) 0 _ [] D U (by simp;omega)with⟨G,H⟩|⟨I,l,G,H,v,Q,W⟩
 ·rw[G]at d;have A:jX s lo hi=some ([],false):=d;have e:aj s lo hi=([],false):=by unfold aj;rw[A];rfl
  rw[e];exact⟨A,.inl ⟨rfl,rfl⟩,fun i hi=>P i hi _ (by rw[H];rfl)⟩
 ·obtain⟨w,X,J,Y⟩:=Qn hi I v.1 f 60 9223372036854775808 lo [] (by omega) (by omega) M (by omega) (by simp) (by simp) (fun y Z=>by cases Z);have K:∀y,y∈w↔y∈l:=fun y=>by
   rw[Y];constructor
   ·rintro(h|⟨a1,a2,a3⟩)
    ·cases h
    ·have:=(v.2.2 y.toNat (by omega)).1 a3
     rwa [show((y.toNat:Nat):Int)=y by omega]at this
   ·intro h;have b:=v.2.1 y h;refine .inr ⟨b.1,b.2,(v.2.2 y.toNat (by omega)).2 ?_⟩
    rwa [show((y.toNat:Nat):Int)=y by omega]
  obtain⟨c1,c2⟩:=Mr l;have e3:kM (dj l)=w:=wu c1 J fun y=>(c2 y).trans (K y).symm
  rw[G,Wy]at d;simp only[X,Wy]at d;have e:aj s lo hi=(w,true):=by unfold aj;rw[d];rfl
  rw[e];have R:∀x∈w,lo≤x∧x≤hi:=fun x k=>v.2.1 x ((K x).1 k)
  have wl:=zy lo hi w lo J R (by omega);refine⟨d,.inr ⟨rfl,J,fun z=>?_,R,by show w.length≤60;omega⟩,fun i hi=>P i hi _ ?_⟩
  ·have L:=W (.inl F);cases q:l with
   |nil=>exact L q
   |cons x t=>have:=(K x).2 (by rw[q];simp);rw[show w=[]from z]at this;cases this
  ·rw[H,Wy];simp only;have sl:(dj l).length=l.length:=Y4 l;rw[sl,Wz (by simp at Q;omega),Wz (by simp at Q;omega),e3];rfl
theorem Jl (s:Zz)(i:Int)(hs:s.size≤2000000):jF s i=some (be s i):=(DO s _ _ hs (Q1 i)).2.2 i rfl
theorem fk (c:Zz)(a:Int)(b:Int)(h:c.size≤2000000)(hb:0≤a∧a≤b∧b≤59):Does E 110 [Wt c,Wr a,Wr b] [(false,[Ww 1 (((aj c a b).1).map etI)]),Wp ((aj c a b).2)]:=by exact L5 c a b _ (DO c a b h hb).1
theorem F4 (a:Zz)(b:Int)(h:a.size≤2000000):Does E 152 [Wt a,Wr b] [(false,[Ww 1 (((be a b).1).map etI)]),Wp ((be a b).2)]:=by exact Gw a b _ (Jl a b h)
theorem cV (a:Zz)(b:Int)(h:a.size≤2000000){d:Bool}(c:(be a b).2=d):Does E 152 [Wt a,Wr b] [(false,[Ww 1 (((be a b).1).map etI)]),Wp d]:=by rw[←c];exact F4 a b h
end
end Go.Proofs.YtlgddjncnedkgaaGreatDoor.Am
