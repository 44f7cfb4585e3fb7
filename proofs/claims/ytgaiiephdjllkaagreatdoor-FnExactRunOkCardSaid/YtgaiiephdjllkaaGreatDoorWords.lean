/- Numbers in words. -/
import Derived.Test.YtgaiiephdjllkaaGreatDoorEnv
import Derived.Test.YtgaiiephdjllkaaGreatDoorShelf
namespace Go.Proofs.YtgaiiephdjllkaaGreatDoor.Am
open Go Go.Proofs Classical
set_option maxRecDepth 100000
set_option linter.unusedVariables false
set_option linter.unusedSimpArgs false
structure GCron where
 f0:List Int
 f1:List Int
 f2:List Int
 f3:List Int
 f4:List Int
def GCron.t (k:Kd) (x:GCron):List (T Unit):=[.s k () 1 (x.f0.map etI),.s k () 1 (x.f1.map etI),.s k () 1 (x.f2.map etI),.s k () 1 (x.f3.map etI),.s k () 1 (x.f4.map etI)]
instance:ak GCron:=⟨fun x=>ak.sm x.f0∧ak.sm x.f1∧ak.sm x.f2∧ak.sm x.f3∧ak.sm x.f4⟩
instance:Wf GCron:=⟨fun x=>Wf.wf x.f0∧Wf.wf x.f1∧Wf.wf x.f2∧Wf.wf x.f3∧Wf.wf x.f4⟩
structure GTask where
 f0:ByteArray
 f1:ByteArray
 f2:Int
 f3:Bool
 f4:List ByteArray
def GTask.t (k:Kd) (x:GTask):List (T Unit):=[tS x.f0,tS x.f1,tI x.f2,tB x.f3,.s k () 1 (x.f4.map etS)]
instance:ak GTask:=⟨fun x=>ak.sm x.f0∧ak.sm x.f1∧ak.sm x.f4⟩
instance:Wf GTask:=⟨fun x=>Wf.wf x.f0∧Wf.wf x.f1∧Wf.wf x.f4⟩
structure GDag where
 f0:ByteArray
 f1:ByteArray
 f2:Int
 f3:Int
 f4:Bool
 f5:List GTask
def GDag.t (k q:Kd) (x:GDag):List (T Unit):=[tS x.f0,tS x.f1,tI x.f2,tI x.f3,tB x.f4,.s k () 5 (x.f5.map (GTask.t q))]
instance:ak GDag:=⟨fun x=>ak.sm x.f0∧ak.sm x.f1∧ak.sm x.f5⟩
instance:Wf GDag:=⟨fun x=>Wf.wf x.f0∧Wf.wf x.f1∧Wf.wf x.f5⟩
structure LDag where
 f0:ByteArray
 f1:ByteArray
 f2:Int
 f3:Int
 f4:Bool
 f5:List GTask
def LDag.t (k q:Kd) (x:LDag):List (T Unit):=[tS x.f0,tS x.f1,tI x.f2,tI x.f3,tB x.f4,.s k () 5 (x.f5.map (GTask.t q))]
instance:ak LDag:=⟨fun x=>ak.sm x.f0∧ak.sm x.f1∧ak.sm x.f5⟩
instance:Wf LDag:=⟨fun x=>Wf.wf x.f0∧Wf.wf x.f1∧Wf.wf x.f5⟩
structure GSpan where
 f0:Int
 f1:Int
def GSpan.t (x:GSpan):List (T Unit):=[tI x.f0,tI x.f1]
instance:ak GSpan:=⟨fun x=>True⟩
instance:Wf GSpan:=⟨fun x=>True⟩
structure GState where
 f0:Int
 f1:Int
 f2:Int
 f3:Int
def GState.t (x:GState):List (T Unit):=[tI x.f0,tI x.f1,tI x.f2,tI x.f3]
instance:ak GState:=⟨fun x=>True⟩
instance:Wf GState:=⟨fun x=>True⟩
structure GRun where
 f0:ByteArray
 f1:GSpan
 f2:Int
 f3:List GState
def GRun.t (k:Kd) (x:GRun):List (T Unit):=[tS x.f0]++GSpan.t x.f1++[tI x.f2]++[.s k () 4 (x.f3.map GState.t)]
instance:ak GRun:=⟨fun x=>ak.sm x.f0∧ak.sm x.f1∧ak.sm x.f3⟩
instance:Wf GRun:=⟨fun x=>Wf.wf x.f0∧Wf.wf x.f1∧Wf.wf x.f3⟩
structure LRun where
 f0:ByteArray
 f1:GSpan
 f2:Int
 f3:List GState
def LRun.t (k:Kd) (x:LRun):List (T Unit):=[tS x.f0]++GSpan.t x.f1++[tI x.f2]++[.s k () 4 (x.f3.map GState.t)]
instance:ak LRun:=⟨fun x=>ak.sm x.f0∧ak.sm x.f1∧ak.sm x.f3⟩
instance:Wf LRun:=⟨fun x=>Wf.wf x.f0∧Wf.wf x.f1∧Wf.wf x.f3⟩
def dm (s sep:ByteArray):List ByteArray:=Lib.splitB sep 0 (Lib.countB s sep) s
def aT (xs:List ByteArray) (sep:ByteArray):ByteArray:=⟨(Lib.join (xs.map (·.data.toList)) sep.data.toList).toArray⟩
def bf (n:Int):ByteArray:=⟨(Lib.itoa n).toArray⟩
def aH (s sep:ByteArray):ByteArray×ByteArray×Bool:=(⟨(Lib.cut s.data.toList sep.data.toList).1.toArray⟩,⟨(Lib.cut s.data.toList sep.data.toList).2.1.toArray⟩,(Lib.cut s.data.toList sep.data.toList).2.2)
def bD (s p:ByteArray):ByteArray×Bool:=(⟨(Lib.trimPrefix s.data.toList p.data.toList).toArray⟩,Lib.hasPrefix s.data.toList p.data.toList)
noncomputable def dg (l:List Int):List Int:=l.mergeSort fun x y=>decide (x≤y)
noncomputable def gz (l:List Int):List Int:=Lib.compact l
theorem iU (x0 x1:ByteArray) (h1:x0.size<4294967281) (h2:1≤x1.size):Does E 101 [.one (tS x0),.one (tS x1)] [(false,[.s .own () 1 ((dm x0 x1).map etS)])]:=by
 refine Does.orc ⟨0,fun k _ => ?_⟩
 have o:∀ C us,E.orc C 101 us=wW us:=fun _ _=>rfl
 refine (o _ _).trans ?_
 show (if _ then _ else _)=_
 rw [if_pos ⟨h1,h2⟩]
 rfl
theorem dE (x0 x1:ByteArray) (h1:x0.size<4294967281):Does E 115 [.one (tS x0),.one (tS x1)] [(false,[tS (aH x0 x1).1]),(false,[tS (aH x0 x1).2.1]),(false,[tB (aH x0 x1).2.2])]:=by
 refine Does.orc ⟨0,fun k _ => ?_⟩
 have o:∀ C us,E.orc C 115 us=Ew us:=fun _ _=>rfl
 refine (o _ _).trans ?_
 show (if _ then _ else _)=_
 rw [if_pos h1]
 rfl
theorem bw (x0 x1:ByteArray)  : Does E 113 [.one (tS x0),.one (tS x1)] [(false,[tS (bD x0 x1).1]),(false,[tB (bD x0 x1).2])]:=by
 refine Does.orc ⟨0,fun k _ => ?_⟩
 have o:∀ C us,E.orc C 113 us=nI us:=fun _ _=>rfl
 refine (o _ _).trans ?_
 rfl
theorem xf (x0:Int) (h : -9223372036854775808≤x0∧x0≤9223372036854775807):Does E 106 [.one (tI x0)] [(false,[tS (bf x0)])]:=by
 refine Does.orc ⟨0,fun k _ => ?_⟩
 have o:∀ C us,E.orc C 106 us=Aa us:=fun _ _=>rfl
 refine (o _ _).trans ?_
 show (if _ then _ else _)=_
 rw [if_pos h]
 rfl
theorem fw (x0:List ByteArray) (x1:ByteArray) (h:x0.length≤140737488355328∧(aT x0 x1).size≤140737488355328):Does E 96 [.one (.s .far () 1 (x0.map etS)),.one (tS x1)] [(false,[tS (aT x0 x1)])]:=by
 refine Does.orc ⟨0,fun k _ => ?_⟩
 have o:∀ C us,E.orc C 96 us=Ab us:=fun _ _=>rfl
 refine (o _ _).trans ?_
 show (oP _).bind _=_
 rw [wZ,Option.bind_some,if_pos ⟨h.1,h.2⟩]
 rfl
theorem nE (x0:List Int) (h:x0.length<4611686018427387904):Does E 98 [.one (.s .own () 1 (x0.map etI))] [(false,[.s .own () 1 ((dg x0).map etI)])]:=by
 refine Does.orc ⟨0,fun k _ => ?_⟩
 have o:∀ C us,E.orc C 98 us=Af us:=fun _ _=>rfl
 refine (o _ _).trans ?_
 show (jm _).bind _=_
 rw [nO,Option.bind_some,if_pos h]
 rfl
theorem qL (x0:List Int) (h:x0.length≤9223372036854775807):Does E 105 [.one (.s .own () 1 (x0.map etI))] [(false,[.any]),(false,[.s .own () 1 ((gz x0).map etI)])]:=by
 refine Does.orc ⟨0,fun k _ => ?_⟩
 have o:∀ C us,E.orc C 105 us=qS us:=fun _ _=>rfl
 refine (o _ _).trans ?_
 show (jm _).bind _=_
 rw [nO,Option.bind_some,if_pos h]
 rfl
theorem uo (x0:List Int)  : Does E 104 [.one (.s .own () 1 (x0.map etI))] [(false,[.any]),(false,[.s .own () 1 ((id x0).map etI)])]:=by
 refine Does.orc ⟨0,fun k _ => ?_⟩
 have o:∀ C us,E.orc C 104 us=z6 us:=fun _ _=>rfl
 refine (o _ _).trans ?_
 show (jm _).bind _=_
 rw [nO,Option.bind_some]
 rfl
end Go.Proofs.YtgaiiephdjllkaaGreatDoor.Am
namespace Go.Proofs.YtgaiiephdjllkaaGreatDoor.Am
open Go Go.Proofs Classical
set_option maxRecDepth 100000
set_option linter.unusedVariables false
set_option linter.unusedSimpArgs false
def ag (x a b:Int):Bool:=decide (x≥a)&&decide (x≤b)
theorem Da {α:Type} {l:List α} {k:Int} (h:ag k 0 (IntKind.wrap .i64 ((l.length:Int)-1))=true) (hl:l.length≤1050000):0≤k∧k<(l.length:Int):=by
 unfold ag at h
 rw [di _ (by omega) (by omega)] at h
 simp only [Bool.and_eq_true,decide_eq_true_eq] at h
 omega
theorem eY {α:Type} {l:List α} {k:Int} (h:0≤k∧k<(l.length:Int)):∃ x,aq l k=some x∧x∈l:=by
 unfold aq
 rw [if_pos h.1,List.getElem?_eq_getElem (by omega)]
 exact ⟨_,rfl,List.getElem_mem _⟩
noncomputable def tZ (x0 x1 x2:Int):Option (Bool) :=
  cond (decide (x0≥x1))
   (some (decide (x0≤x2)))
   (some (false))
theorem GT (x0 x1 x2:Int):Ans (tZ x0 x1 x2) (fun r=>Does E 46 [.one (tI x0),.one (tI x1),.one (tI x2)] [(false,[tB r])]):=by
 unfold tZ
 apply KE<;>intro h0
 ·exact KB (DP Tryz.f46 [.b true] (AC h0<|AN))
 ·exact KB (DP Tryz.f46 [.b false] (AC h0<|AN))
theorem ah (x0:Int) (x1:Int) (x2:Int):Does E 46 [.one (tI x0),.one (tI x1),.one (tI x2)] [(false,[tB (ag x0 x1 x2)])]:=by
 exact GT x0 x1 x2 _ (by unfold tZ ag;cases decide (x0≥x1)<;>rfl)
noncomputable def pK (x0 x1 x2:Int):Option (Bool) :=
  cond (decide (x0≥x1))
   (some (decide (x0≤x2)))
   (some (false))
theorem C4 (x0 x1 x2:Int):Ans (pK x0 x1 x2) (fun r=>Does E 52 [.one (tI x0),.one (tI x1),.one (tI x2)] [(false,[tB r])]):=by
 unfold pK
 apply KE<;>intro h0
 ·exact KB (DP Tryz.f52 [.b true] (AC h0<|AN))
 ·exact KB (DP Tryz.f52 [.b false] (AC h0<|AN))
theorem ax (x0:Int) (x1:Int) (x2:Int):Does E 52 [.one (tI x0),.one (tI x1),.one (tI x2)] [(false,[tB (ag x0 x1 x2)])]:=by
 exact C4 x0 x1 x2 _ (by unfold pK ag;cases decide (x0≥x1)<;>rfl)
noncomputable def iE (x0:Int):Option (Int) :=
  cond (decide (x0<(10:Int)))
   (some (IntKind.wrap .u8 (IntKind.wrap .i64 ((48:Int)+x0))))
   (some (IntKind.wrap .u8 (IntKind.wrap .i64 ((IntKind.wrap .i64 ((97:Int)+x0))-(10:Int)))))
theorem zt (x0:Int):Ans (iE x0) (fun r=>Does E 100 [.one (tI x0)] [(false,[tY r])]):=by
 unfold iE
 apply KE<;>intro h0
 ·exact KB (DP Tryz.f100 [.b true] (AC h0<|AN))
 ·exact KB (DP Tryz.f100 [.b false] (AC h0<|AN))
theorem Ij {x:Int} (h0:0≤x) (h1:x<256):IntKind.wrap .u8 x=x:=by
 simp only [IntKind.wrap,IntKind.bits,IntKind.signed]
 simp
 omega
noncomputable def cz (x:Int):Int:=(iE x).getD 0
theorem AZ (d:Nat) (h:d<10):cz (d:Int)=48+(d:Int):=by
 unfold cz iE
 rw [decide_eq_true (by omega),cond_true,Option.getD_some,di _ (by omega) (by omega),Ij (by omega) (by omega)]
theorem rQ (x0:Int):Does E 100 [.one (tI x0)] [(false,[tY (cz x0)])]:=by
 exact zt x0 _ (by unfold cz iE;cases decide (x0<10)<;>rfl)
noncomputable def pJ (x0:Int):Option (ByteArray) :=
  if -9223372036854775808≤x0∧x0≤9223372036854775807 then some (bf x0) else none
theorem C0 (x0:Int):Ans (pJ x0) (fun r=>Does E 95 [.one (tI x0)] [(false,[tS r])]):=by
 unfold pJ
 refine KG (fun h0 => ?_)
 exact KB (DP Tryz.f95 [.ret [(false,[tS (bf x0)])]] (AD (xf x0 h0)<|AN))
theorem pC (x0:Int) (h : -9223372036854775808≤x0∧x0≤9223372036854775807):Does E 95 [.one (tI x0)] [(false,[tS (bf x0)])]:=by
 exact C0 x0 _ (by unfold pJ;rw [if_pos h])
inductive tW where
 | x0 (v4:ByteArray)
def gR (v0:Int) (v3:Bool) (v4:ByteArray):US:=stL 30 [(0,.one (tI v0)),(3,.one (tB v3)),(4,.one (tS v4))]
def jN (v3:Bool) (zv4:ByteArray):US:=stL 30 [(3,.one (tB v3)),(4,.one (tS zv4))]
abbrev oJ:US→Exit→US→Prop:=Round E 89 (az Tryz.f89 0)
def BZ (v0:Int) (v3:Bool) (v4:ByteArray):tW→Prop
 | .x0 zv4=>Loops E 89 (az Tryz.f89 0) (gR v0 v3 v4) (.exit 0) (jN v3 zv4)
noncomputable def eM  : Nat→Int→Bool→ByteArray→Option tW
 | 0,_,_,_=>none
 | n+1,v0,v3,v4=>cond (v0 != (0:Int))
  (cond (decide ((Int.tmod v0 (10:Int))<(0:Int)))
   (if (strOfNums ([cz (IntKind.wrap .i64 (0-(Int.tmod v0 (10:Int))))])).size+v4.size≤cB then eM n (IntKind.wrap .i64 (Int.tdiv v0 (10:Int))) v3 ((strOfNums ([cz (IntKind.wrap .i64 (0-(Int.tmod v0 (10:Int))))]))++v4) else none)
   (if (strOfNums ([cz (Int.tmod v0 (10:Int))])).size+v4.size≤cB then eM n (IntKind.wrap .i64 (Int.tdiv v0 (10:Int))) v3 ((strOfNums ([cz (Int.tmod v0 (10:Int))]))++v4) else none))
  (some (.x0 v4))
theorem tV  (n:Nat):∀ (v0:Int) (v3:Bool) (v4:ByteArray),Ans (eM n v0 v3 v4) (BZ v0 v3 v4):=by
 induction n with
 | zero=>intros;exact Ans.none
 | succ n ih =>
  intro v0 v3 v4
  unfold eM
  apply KE<;>intro h0
  ·apply KE<;>intro h1
   ·refine KG (fun h2 => ?_)
    have r:oJ (gR v0 v3 v4) .normal (gR (IntKind.wrap .i64 (Int.tdiv v0 (10:Int))) v3 ((strOfNums ([cz (IntKind.wrap .i64 (0-(Int.tmod v0 (10:Int))))]))++v4)):=RP [.b true,.no,.b true,.ret [(false,[tY (cz (IntKind.wrap .i64 (0-(Int.tmod v0 (10:Int)))))])],.val (.string (strOfNums ([cz (IntKind.wrap .i64 (0-(Int.tmod v0 (10:Int))))]))),.val (.string ((strOfNums ([cz (IntKind.wrap .i64 (0-(Int.tmod v0 (10:Int))))]))++v4))] (AC h0<|AC h1<|AD (rQ (IntKind.wrap .i64 (0-(Int.tmod v0 (10:Int)))))<|AC (p:=(dk (((([cz (IntKind.wrap .i64 (0-(Int.tmod v0 (10:Int))))]).map etY).drop 0).take (([cz (IntKind.wrap .i64 (0-(Int.tmod v0 (10:Int))))]).map etY).length)).map strOfNums=some (strOfNums ([cz (IntKind.wrap .i64 (0-(Int.tmod v0 (10:Int))))]))) (by simp only [List.take_length,List.drop_zero];exact G6)<|AC (gt (tab:=E.tab) (t:=9) h2)<|AN);exact (ih (IntKind.wrap .i64 (Int.tdiv v0 (10:Int))) v3 ((strOfNums ([cz (IntKind.wrap .i64 (0-(Int.tmod v0 (10:Int))))]))++v4)).mono fun y hy=>by cases y<;>exact KC r hy
   ·refine KG (fun h2 => ?_)
    have r:oJ (gR v0 v3 v4) .normal (gR (IntKind.wrap .i64 (Int.tdiv v0 (10:Int))) v3 ((strOfNums ([cz (Int.tmod v0 (10:Int))]))++v4)):=RP [.b true,.no,.b false,.ret [(false,[tY (cz (Int.tmod v0 (10:Int)))])],.val (.string (strOfNums ([cz (Int.tmod v0 (10:Int))]))),.val (.string ((strOfNums ([cz (Int.tmod v0 (10:Int))]))++v4))] (AC h0<|AC h1<|AD (rQ (Int.tmod v0 (10:Int)))<|AC (p:=(dk (((([cz (Int.tmod v0 (10:Int))]).map etY).drop 0).take (([cz (Int.tmod v0 (10:Int))]).map etY).length)).map strOfNums=some (strOfNums ([cz (Int.tmod v0 (10:Int))]))) (by simp only [List.take_length,List.drop_zero];exact G6)<|AC (gt (tab:=E.tab) (t:=9) h2)<|AN);exact (ih (IntKind.wrap .i64 (Int.tdiv v0 (10:Int))) v3 ((strOfNums ([cz (Int.tmod v0 (10:Int))]))++v4)).mono fun y hy=>by cases y<;>exact KC r hy
  ·exact KB (KD (show oJ (gR v0 v3 v4) (.exit 0) (jN v3 v4) from RP [.b false] (AC h0<|AN)) (by intro h;cases h))
noncomputable def mS (x0:Int):Option (ByteArray) :=
  cond (x0==(0:Int))
   (some ((⟨#[48]⟩:ByteArray)))
   (cond (decide (x0<(0:Int)))
    ((eM 9223372036854775808 x0 true ByteArray.empty).bind fun y=>match y with
     | .x0 w0_4=>(if (⟨#[45]⟩:ByteArray).size+w0_4.size≤cB then some ((⟨#[45]⟩:ByteArray)++w0_4) else none))
    ((eM 9223372036854775808 x0 false ByteArray.empty).bind fun y=>match y with
     | .x0 w0_4=>(some (w0_4))))
theorem Dn (x0:Int):Ans (mS x0) (fun r=>Does E 89 [.one (tI x0)] [(false,[tS r])]):=by
 unfold mS
 apply KE<;>intro h0
 ·exact KB (DP Tryz.f89 [.b true] (AC h0<|AN))
 ·apply KE<;>intro h1
  ·refine KF (fun y hy => ?_)
   replace hy:=tV 9223372036854775808 x0 true ByteArray.empty y hy
   cases y with
   | x0 w0_4 =>
    have h2:=hy
    refine KG (fun h3 => ?_)
    exact KB (DP Tryz.f89 [.b false,.b true,.lp (.exit 0) (jN true w0_4),.val (.string ((⟨#[45]⟩:ByteArray)++w0_4))] (AC h0<|AC h1<|AL h2<|AC (gt (tab:=E.tab) (t:=9) h3)<|AN))
  ·refine KF (fun y hy => ?_)
   replace hy:=tV 9223372036854775808 x0 false ByteArray.empty y hy
   cases y with
   | x0 w0_4 =>
    have h2:=hy
    exact KB (DP Tryz.f89 [.b false,.b false,.lp (.exit 0) (jN false w0_4)] (AC h0<|AC h1<|AL h2<|AN))
theorem wH (d:Nat) (h:d<10):strOfNums [cz (d:Int)]=ofTx [UInt8.ofNat (48+d)]:=by
 rw [AZ d h]
 unfold strOfNums ofTx
 have:(48+(d:Int)).toNat=48+d:=by omega
 simp [this]
def sS (u:Nat):List UInt8:=if u=0 then [] else Lib.decDigits u
theorem FV (u:Nat) (h:0<u):sS u=sS (u/10)++[UInt8.ofNat (48+u % 10)]:=by
 unfold sS
 rw [if_neg (by omega),CJ u h]
theorem Hq (u:Nat) (h:u<10 ^ 19):(sS u).length≤19:=by
 unfold sS
 split
 ·simp
 ·exact qV 18 u h
theorem yw (b:Bool):∀ (n:Nat) (v:Int) (s:List UInt8), -9223372036854775808≤v→v≤9223372036854775807→v.natAbs<10 ^ n→s.length+n≤100→∀ m,n<m→eM m v b (ofTx s)=some (.x0 (ofTx (sS v.natAbs++s)))
 | 0,v,s,_,_,h,_,m,hm=>by
  obtain ⟨m,rfl⟩:∃ k,m=k+1:=⟨m-1,by omega⟩
  have:v=0:=by simpa using h
  subst this
  rfl
 | n+1,v,s,h1,h2,h,hs,m,hm=>by
  obtain ⟨m,rfl⟩:∃ k,m=k+1:=⟨m-1,by omega⟩
  unfold eM
  by_cases z:v=0
  ·subst z;rfl
  ·have hz:(v != 0)=true:=by simpa using z
   rw [hz,cond_true]
   have hpos:0<v.natAbs:=by omega
   have hd:v.natAbs % 10<10:=Nat.mod_lt _ (by omega)
   have hq:(Int.tdiv v 10).natAbs=v.natAbs/10:=by rw [Int.natAbs_tdiv];rfl
   have hw:IntKind.wrap .i64 (Int.tdiv v 10)=Int.tdiv v 10:=di _ (by omega) (by omega)
   have hm0:(Int.tmod v 10).natAbs=v.natAbs % 10:=by rw [Int.natAbs_tmod];rfl
   have ih:=yw b n (Int.tdiv v 10) ([UInt8.ofNat (48+v.natAbs % 10)]++s) (by omega) (by omega) (by rw [hq];rw [Nat.pow_succ] at h;omega) (by simp;omega) m (by omega)
   rw [hq, ← List.append_assoc, ← FV _ hpos] at ih
   have sz:∀ l:List UInt8,(ofTx l).size=l.length:=fun l=>cM _
   by_cases c:Int.tmod v 10<0
   ·have e:IntKind.wrap .i64 (0-Int.tmod v 10)=((v.natAbs % 10:Nat):Int):=by rw [di _ (by omega) (by omega)];omega
    rw [decide_eq_true c,cond_true,e,wH _ hd,if_pos (by rw [sz,sz];simp [cB];omega),hw,mv]
    exact ih
   ·have e:Int.tmod v 10=((v.natAbs % 10:Nat):Int):=by omega
    rw [decide_eq_false c,cond_false,e,wH _ hd,if_pos (by rw [sz,sz];simp [cB];omega),hw,mv]
    exact ih
theorem FU (x:Int) (h : -9223372036854775808≤x∧x≤9223372036854775807):mS x=some (bf x):=by
 unfold mS bf Lib.itoa
 by_cases z:x=0
 ·subst z
  show some _=some _
  rw [if_neg (by omega),Lib.decDigits,dif_pos (by simp)];rfl
 ·have hz:(x==0)=false:=by simpa using z
  have hb:x.natAbs<10 ^ 19:=by have:(10:Nat) ^ 19=10000000000000000000:=rfl;omega
  have hl:=fun b=>yw b 19 x [] h.1 h.2 hb (by simp) 9223372036854775808 (by omega)
  have e0:ofTx []=ByteArray.empty:=rfl
  rw [e0] at hl
  have dl:=Hq _ hb
  rw [hz,cond_false,hl,hl]
  simp only [List.append_nil,Option.bind_some]
  have sz:∀ l:List UInt8,(ofTx l).size=l.length:=fun l=>cM _
  have hd:sS x.natAbs=Lib.decDigits x.natAbs:=by unfold sS;rw [if_neg (by omega)]
  by_cases c:x<0
  ·have e1:(⟨#[45]⟩:ByteArray)=ofTx [45]:=rfl
   rw [decide_eq_true c,cond_true,if_pos c,e1,if_pos (by rw [sz,sz];simp [cB];omega),mv,hd]
   rfl
  ·have e2:x.natAbs=x.toNat:=by omega
   rw [decide_eq_false c,cond_false,if_neg c,hd,e2]
   rfl
theorem mK (x0:Int) (h : -9223372036854775808≤x0∧x0≤9223372036854775807):Does E 89 [.one (tI x0)] [(false,[tS (bf x0)])]:=by
 exact Dn x0 _ (FU x0 h)
inductive tX where
 | ret (v2:List ByteArray) (v3:Bool)
 | x0 (v4:List ByteArray)
def bQ (v0:ByteArray) (v4:List ByteArray) (v5 v6:Int):US:=stL 62 [(0,.one (tS v0)),(4,.one (.s .own () 1 (v4.map etS))),(5,.one (tI v5)),(6,.one (tI v6))]
def i6 (zv2:List ByteArray) (zv3:Bool):US:=stL 62 [(2,.one (.s .own () 1 (zv2.map etS))),(3,.one (tB zv3))]
def jO (zv4:List ByteArray):US:=stL 62 [(4,.one (.s .own () 1 (zv4.map etS)))]
abbrev eN:US→Exit→US→Prop:=Round E 66 (az Tryz.f66 0)
def B2 (v0:ByteArray) (v4:List ByteArray) (v5 v6:Int):tX→Prop
 | .ret zv2 zv3=>Loops E 66 (az Tryz.f66 0) (bQ v0 v4 v5 v6) .ret (i6 zv2 zv3)
 | .x0 zv4=>Loops E 66 (az Tryz.f66 0) (bQ v0 v4 v5 v6) (.exit 0) (jO zv4)
noncomputable def cF (v0:ByteArray):Nat→(List ByteArray)→Int→Int→Option tX
 | 0,_,_,_=>none
 | n+1,v4,v5,v6=>cond (decide (v6≤(v0.size:Int)))
  (cond (decide (v6<(v0.size:Int)))
   (if 0≤v6∧v6<(v0.size:Int) then cond (decide ((fg v0 v6)<(32:Int)))
    (some (.ret ([]) false))
    (cond (decide ((fg v0 v6)>(126:Int)))
     (some (.ret ([]) false))
     (cond ((fg v0 v6) != (32:Int))
      (cF v0 n v4 v5 (inc v6))
      (cond (decide (v5<v6))
       (if 0≤v5∧v5≤v6∧v6≤(v0.size:Int) then if (v4.length+([v0.extract v5.toNat v6.toNat]).length)*16≤140737488355328∧v4.length+([v0.extract v5.toNat v6.toNat]).length≤4611686018427387904 then cF v0 n (v4++([v0.extract v5.toNat v6.toNat])) (inc v6) (inc v6) else none else none)
       (cF v0 n v4 (inc v6) (inc v6))))) else none)
   (cond (decide (v5<v6))
    (if 0≤v5∧v5≤v6∧v6≤(v0.size:Int) then if (v4.length+([v0.extract v5.toNat v6.toNat]).length)*16≤140737488355328∧v4.length+([v0.extract v5.toNat v6.toNat]).length≤4611686018427387904 then cF v0 n (v4++([v0.extract v5.toNat v6.toNat])) (inc v6) (inc v6) else none else none)
    (cF v0 n v4 (inc v6) (inc v6))))
  (some (.x0 v4))
theorem B1 (v0:ByteArray) (n:Nat):∀ (v4:List ByteArray) (v5 v6:Int),Ans (cF v0 n v4 v5 v6) (B2 v0 v4 v5 v6):=by
 induction n with
 | zero=>intros;exact Ans.none
 | succ n ih =>
  intro v4 v5 v6
  unfold cF
  apply KE<;>intro h0
  ·apply KE<;>intro h1
   ·refine KG (fun h2 => ?_)
    apply KE<;>intro h3
    ·exact KB (KD (show eN (bQ v0 v4 v5 v6) .ret (i6 ([]) false) from RP [.b true,.b true,.b true] (AC h0<|AC h1<|AC h2<|AC h3<|AN)) (by intro h;cases h))
    ·apply KE<;>intro h4
     ·exact KB (KD (show eN (bQ v0 v4 v5 v6) .ret (i6 ([]) false) from RP [.b true,.b true,.b false,.b true] (AC h0<|AC h1<|AC h2<|AC h3<|AC h2<|AC h4<|AN)) (by intro h;cases h))
     ·apply KE<;>intro h5
      ·have r:eN (bQ v0 v4 v5 v6) .normal (bQ v0 v4 v5 (inc v6)):=RP [.b true,.b true,.b false,.b false,.b true,.b true] (AC h0<|AC h1<|AC h2<|AC h3<|AC h2<|AC h4<|AC h1<|AC h2<|AC h5<|AN);exact (ih v4 v5 (inc v6)).mono fun y hy=>by cases y<;>exact KC r hy
      ·apply KE<;>intro h6
       ·refine KG (fun h7 => ?_)
        refine KG (fun h8 => ?_)
        have r:eN (bQ v0 v4 v5 v6) .normal (bQ v0 (v4++([v0.extract v5.toNat v6.toNat])) (inc v6) (inc v6)):=RP [.b true,.b true,.b false,.b false,.b true,.b false,.b true,.rows ((v4++([v0.extract v5.toNat v6.toNat])).map etS)] (AC h0<|AC h1<|AC h2<|AC h3<|AC h2<|AC h4<|AC h1<|AC h2<|AC h5<|AC h6<|AC h7<|AAp etS (fun _=>rfl) h8<|AN);exact (ih (v4++([v0.extract v5.toNat v6.toNat])) (inc v6) (inc v6)).mono fun y hy=>by cases y<;>exact KC r hy
       ·have r:eN (bQ v0 v4 v5 v6) .normal (bQ v0 v4 (inc v6) (inc v6)):=RP [.b true,.b true,.b false,.b false,.b true,.b false,.b false] (AC h0<|AC h1<|AC h2<|AC h3<|AC h2<|AC h4<|AC h1<|AC h2<|AC h5<|AC h6<|AN);exact (ih v4 (inc v6) (inc v6)).mono fun y hy=>by cases y<;>exact KC r hy
   ·apply KE<;>intro h2
    ·refine KG (fun h3 => ?_)
     refine KG (fun h4 => ?_)
     have r:eN (bQ v0 v4 v5 v6) .normal (bQ v0 (v4++([v0.extract v5.toNat v6.toNat])) (inc v6) (inc v6)):=RP [.b true,.b false,.b false,.b true,.rows ((v4++([v0.extract v5.toNat v6.toNat])).map etS)] (AC h0<|AC h1<|AC h1<|AC h2<|AC h3<|AAp etS (fun _=>rfl) h4<|AN);exact (ih (v4++([v0.extract v5.toNat v6.toNat])) (inc v6) (inc v6)).mono fun y hy=>by cases y<;>exact KC r hy
    ·have r:eN (bQ v0 v4 v5 v6) .normal (bQ v0 v4 (inc v6) (inc v6)):=RP [.b true,.b false,.b false,.b false] (AC h0<|AC h1<|AC h1<|AC h2<|AN);exact (ih v4 (inc v6) (inc v6)).mono fun y hy=>by cases y<;>exact KC r hy
  ·exact KB (KD (show eN (bQ v0 v4 v5 v6) (.exit 0) (jO v4) from RP [.b false] (AC h0<|AN)) (by intro h;cases h))
noncomputable def mT (x0:ByteArray):Option ((List ByteArray)×Bool) :=
  cond (decide ((x0.size:Int)>(600:Int)))
   (some (([]:List ByteArray),false))
   ((cF x0 9223372036854775808 ([]) (0:Int) (0:Int)).bind fun y=>match y with
    | .ret w0_2 w0_3=>(some (w0_2,w0_3))
    | .x0 w0_4=>(cond (decide ((w0_4.length:Int)>(10:Int)))
     (some (([]:List ByteArray),false))
     (some (w0_4,true))))
theorem Dq (x0:ByteArray):Ans (mT x0) (fun r=>Does E 66 [.one (tS x0)] [(false,[.s .own () 1 (r.1.map etS)]),(false,[tB r.2])]):=by
 unfold mT
 apply KE<;>intro h0
 ·exact KB (DP Tryz.f66 [.b true] (AC h0<|AN))
 ·refine KF (fun y hy => ?_)
  replace hy:=B1 x0 9223372036854775808 ([]) (0:Int) (0:Int) y hy
  cases y with
  | ret w0_2 w0_3 =>
   have h1:=hy
   exact KB (DP Tryz.f66 [.b false,.lp .ret (i6 w0_2 w0_3)] (AC h0<|AL h1<|AN))
  | x0 w0_4 =>
   have h1:=hy
   apply KE<;>intro h2
   ·exact KB (DP Tryz.f66 [.b false,.lp (.exit 0) (jO w0_4),.val (.int .i64 (w0_4.length:Int)),.b true] (AC h0<|AL h1<|ALn w0_4 etS<|AC h2<|AN))
   ·exact KB (DP Tryz.f66 [.b false,.lp (.exit 0) (jO w0_4),.val (.int .i64 (w0_4.length:Int)),.b false] (AC h0<|AL h1<|ALn w0_4 etS<|AC h2<|AN))
inductive tg where
 | x2 (v5:List ByteArray)
def gL (v5 v28:List ByteArray) (v29 v30:Int):US:=stL 45 [(5,.one (.s .own () 1 (v5.map etS))),(28,.one (.s .own () 1 (v28.map etS))),(29,.one (tI v29)),(30,.one (tI v30))]
def jE (zv5:List ByteArray):US:=stL 45 [(5,.one (.s .own () 1 (zv5.map etS)))]
abbrev ox:US→Exit→US→Prop:=Round E 90 (az Tryz.f90 1)
def Bd (v5 v28:List ByteArray) (v29 v30:Int):tg→Prop
 | .x2 zv5=>Loops E 90 (az Tryz.f90 1) (gL v5 v28 v29 v30) (.exit 2) (jE zv5)
noncomputable def d7  : List ByteArray→Nat→(List ByteArray)→Option tg
 | [],i,v5=>some (.x2 v5)
 | hd::rest,i,v5=>cond (!(hd.toList==ByteArray.empty.toList))
  (if (v5.length+([hd]).length)*16≤140737488355328∧v5.length+([hd]).length≤4611686018427387904 then d7 rest (i+1) (v5++([hd])) else none)
  (d7 rest (i+1) v5)
theorem Bb (v28:List ByteArray) (rest:List ByteArray):∀ (i:Nat) (v5:List ByteArray),(v28).drop i=rest→v28.length≤9223372036854775807→Ans (d7 rest i v5) (Bd v5 v28 (v28.length:Int) (i:Int)):=by
 induction rest with
 | nil =>
  intro i v5 hE hl
  have hb:=br hE
  unfold d7
  exact KB (KD (show ox (gL v5 v28 (v28.length:Int) (i:Int)) (.exit 2) (jE v5) from RP [.b false] (AC hb<|AN)) (by intro h;cases h))
 | cons hd rest ih =>
  intro i v5 hE hl
  have hb:=bd hE
  have hw:=be hE hl
  have hE2:=aJ hE
  have hg:=ba hE
  unfold d7
  apply KE<;>intro h2
  ·refine KG (fun h3 => ?_)
   exact (ih (i+1) (v5++([hd])) hE2 hl).mono fun y hy=>by have r:ox (gL v5 v28 (v28.length:Int) (i:Int)) .normal (gL (v5++([hd])) v28 (v28.length:Int) (inc (i:Int))):=RP [.b true,.row (etS hd),.b true,.rows ((v5++([hd])).map etS)] (AC hb<|AG etS hg<|AC h2<|AAp etS (fun _=>rfl) h3<|AN);rw [hw] at r;cases y<;>exact KC r hy
  ·exact (ih (i+1) v5 hE2 hl).mono fun y hy=>by have r:ox (gL v5 v28 (v28.length:Int) (i:Int)) .normal (gL v5 v28 (v28.length:Int) (inc (i:Int))):=RP [.b true,.row (etS hd),.b false] (AC hb<|AG etS hg<|AC h2<|AN);rw [hw] at r;cases y<;>exact KC r hy
inductive tf where
 | ret (v2:List ByteArray) (v3:Bool)
 | x0 
def fI (v0:ByteArray) (v4:Int):US:=stL 45 [(0,.one (tS v0)),(4,.one (tI v4))]
def iV (zv2:List ByteArray) (zv3:Bool):US:=stL 45 [(2,.one (.s .own () 1 (zv2.map etS))),(3,.one (tB zv3))]
def jD (v0:ByteArray):US:=stL 45 [(0,.one (tS v0))]
abbrev lJ:US→Exit→US→Prop:=Round E 90 (az Tryz.f90 0)
def Bc (v0:ByteArray) (v4:Int):tf→Prop
 | .ret zv2 zv3=>Loops E 90 (az Tryz.f90 0) (fI v0 v4) .ret (iV zv2 zv3)
 | .x0=>Loops E 90 (az Tryz.f90 0) (fI v0 v4) (.exit 0) (jD v0)
noncomputable def fJ  : List Int→Nat→Option tf
 | [],i=>some (.x0)
 | hd::rest,i=>cond (decide (hd<(32:Int)))
  (some (.ret ([]) false))
  (cond (decide (hd>(126:Int)))
   (some (.ret ([]) false))
   (fJ rest (i+1)))
theorem Ba (v0:ByteArray) (rest:List Int):∀ (i:Nat) ,(bK v0).drop i=rest→v0.size≤9223372036854775807→Ans (fJ rest i) (Bc v0 (i:Int)):=by
 induction rest with
 | nil =>
  intro i hE hl
  have hb:=ou hE
  unfold fJ
  exact KB (KD (show lJ (fI v0 (i:Int)) (.exit 0) (jD v0) from RP [.b false] (AC hb<|AN)) (by intro h;cases h))
 | cons hd rest ih =>
  intro i hE hl
  have hb:=m5 hE
  have hw:=m6 hE hl
  have hE2:=aJ hE
  have hp:=qj hE
  obtain rfl:=qi hE
  unfold fJ
  apply KE<;>intro h2
  ·exact KB (KD (show lJ (fI v0 (i:Int)) .ret (iV ([]) false) from RP [.b true,.b true] (AC hb<|AC hp<|AC h2<|AN)) (by intro h;cases h))
  ·apply KE<;>intro h3
   ·exact KB (KD (show lJ (fI v0 (i:Int)) .ret (iV ([]) false) from RP [.b true,.b false,.b true] (AC hb<|AC hp<|AC h2<|AC hp<|AC h3<|AN)) (by intro h;cases h))
   ·exact (ih (i+1) hE2 hl).mono fun y hy=>by have r:lJ (fI v0 (i:Int)) .normal (fI v0 (inc (i:Int))):=RP [.b true,.b false,.b false] (AC hb<|AC hp<|AC h2<|AC hp<|AC h3<|AN);rw [hw] at r;cases y<;>exact KC r hy
noncomputable def mM (x0:ByteArray):Option ((List ByteArray)×Bool) :=
  cond (decide ((x0.size:Int)>(600:Int)))
   (some (([]:List ByteArray),false))
   (if x0.size≤9223372036854775807 then (fJ (bK x0) 0).bind fun y=>match y with
    | .ret w0_2 w0_3=>(some (w0_2,w0_3))
    | .x0=>(if x0.size<4294967281 then if 1≤(⟨#[32]⟩:ByteArray).size then if (dm x0 (⟨#[32]⟩:ByteArray)).length≤9223372036854775807 then (d7 (dm x0 (⟨#[32]⟩:ByteArray)) 0 ([])).bind fun y=>match y with
     | .x2 w1_5=>(cond (decide ((w1_5.length:Int)>(10:Int)))
      (some (([]:List ByteArray),false))
      (some (w1_5,true))) else none else none else none) else none)
theorem C3 (x0:ByteArray):Ans (mM x0) (fun r=>Does E 90 [.one (tS x0)] [(false,[.s .own () 1 (r.1.map etS)]),(false,[tB r.2])]):=by
 unfold mM
 apply KE<;>intro h0
 ·exact KB (DP Tryz.f90 [.b true] (AC h0<|AN))
 ·refine KG (fun hl2 => ?_)
  refine KF (fun y hy => ?_)
  replace hy:=Ba x0 (bK x0) 0 rfl hl2 y hy
  cases y with
  | ret w0_2 w0_3 =>
   have h1:=hy
   exact KB (DP Tryz.f90 [.b false,.lp .ret (iV w0_2 w0_3)] (AC h0<|AL h1<|AN))
  | x0 =>
   have h1:=hy
   refine KG (fun h2 => ?_)
   refine KG (fun h3 => ?_)
   refine KG (fun hl3 => ?_)
   refine KF (fun y hy => ?_)
   replace hy:=Bb (dm x0 (⟨#[32]⟩:ByteArray)) (dm x0 (⟨#[32]⟩:ByteArray)) 0 ([]) rfl hl3 y hy
   cases y with
   | x2 w1_5 =>
    have h4:=hy
    apply KE<;>intro h5
    ·exact KB (DP Tryz.f90 [.b false,.lp (.exit 0) (jD x0),.ret [(false,[.s .own () 1 ((dm x0 (⟨#[32]⟩:ByteArray)).map etS)])],.val (.int .i64 ((dm x0 (⟨#[32]⟩:ByteArray)).length:Int)),.lp (.exit 2) (jE w1_5),.val (.int .i64 (w1_5.length:Int)),.b true] (AC h0<|AL h1<|AD (iU x0 (⟨#[32]⟩:ByteArray) h2 h3)<|ALn (dm x0 (⟨#[32]⟩:ByteArray)) etS<|AL h4<|ALn w1_5 etS<|AC h5<|AN))
    ·exact KB (DP Tryz.f90 [.b false,.lp (.exit 0) (jD x0),.ret [(false,[.s .own () 1 ((dm x0 (⟨#[32]⟩:ByteArray)).map etS)])],.val (.int .i64 ((dm x0 (⟨#[32]⟩:ByteArray)).length:Int)),.lp (.exit 2) (jE w1_5),.val (.int .i64 (w1_5.length:Int)),.b false] (AC h0<|AL h1<|AD (iU x0 (⟨#[32]⟩:ByteArray) h2 h3)<|ALn (dm x0 (⟨#[32]⟩:ByteArray)) etS<|AL h4<|ALn w1_5 etS<|AC h5<|AN))
def okB (b:UInt8):Bool:=decide (32≤b.toNat)&&decide (b.toNat≤126)
theorem GE {b:UInt8} (h:b.toNat<32):okB b=false:=by unfold okB;rw [decide_eq_false (by omega)];rfl
theorem GC {b:UInt8} (h:126<b.toNat):okB b=false:=by unfold okB;rw [decide_eq_false (by omega:¬ b.toNat≤126),Bool.and_false]
theorem GD {b:UInt8} (h:¬ b.toNat<32) (h2:¬ 126<b.toNat):okB b=true:=by unfold okB;rw [decide_eq_true (by omega),decide_eq_true (by omega)];rfl
def aG (x:ByteArray):Bool := !(x.toList==ByteArray.empty.toList)
noncomputable def aK (s:ByteArray):List ByteArray×Bool :=
 if 600<s.size then ([],false) else if (tx s).all okB=true then (if 10<(((bG 32 (tx s)).map ofTx).filter aG).length then ([],false) else (((bG 32 (tx s)).map ofTx).filter aG,true)) else ([],false)
theorem A1 (l:List UInt8):aG (ofTx l) = !l.isEmpty:=by
 unfold aG
 rw [iy]
 have:tx ByteArray.empty=[]:=rfl
 rw [this,qG]
 cases l<;>rfl
theorem wV (s:ByteArray) (c:UInt8):dm s ⟨#[c]⟩=(bG c (tx s)).map ofTx:=DD s c
theorem nX (s:ByteArray):bK s=(tx s).map fun b=>(b.toNat:Int):=rfl
theorem Ax {s:ByteArray} {i:Nat} {b:UInt8} (h:(tx s)[i]?=some b):fg s (i:Int)=(b.toNat:Int):=by
 have hi:i<s.size:=by
  rw [cM]
  rcases Nat.lt_or_ge i (tx s).length with g | g
  ·exact g
  ·rw [List.getElem?_eq_none g] at h;cases h
 have:=pY s i hi
 rw [nX,List.getElem?_map,h] at this
 exact (Option.some.inj this).symm
theorem GH:∀ (l:List UInt8) (i:Nat),fJ (l.map fun b=>(b.toNat:Int)) i=some (if l.all okB=true then .x0 else .ret [] false)
 | [],i=>rfl
 | b::l,i=>by
  rw [List.map_cons]
  unfold fJ
  rw [GH l (i+1),List.all_cons]
  by_cases h:b.toNat<32
  ·rw [decide_eq_true (by omega),GE h];rfl
  ·rw [decide_eq_false (by omega),cond_false]
   by_cases h':126<b.toNat
   ·rw [decide_eq_true (by omega),GC h'];rfl
   ·rw [decide_eq_false (by omega),GD h h'];rfl
theorem BJ:∀ (l:List ByteArray) (i:Nat) (v:List ByteArray),v.length+l.length≤4000000→d7 l i v=some (.x2 (v++l.filter aG))
 | [],i,v,_=>by unfold d7;simp
 | x::l,i,v,h=>by
  simp only [List.length_cons] at h
  unfold d7
  have e:(!(x.toList==ByteArray.empty.toList))=aG x:=rfl
  rw [e]
  cases q:aG x with
  | true =>
   rw [cond_true,if_pos (by simp;omega),BJ l (i+1) _ (by simp;omega),List.filter_cons,q];simp
  | false =>
   rw [cond_false,BJ l (i+1) v (by omega),List.filter_cons,q];simp
theorem GI (s:ByteArray):mM s=some (aK s):=by
 unfold mM aK
 by_cases h:600<s.size
 ·rw [decide_eq_true (by omega),if_pos h];rfl
 ·have hl:=vi 32 (tx s)
  rw [← cM] at hl
  rw [decide_eq_false (by omega),if_neg h,cond_false,if_pos (by omega),nX,GH]
  by_cases q:(tx s).all okB=true
  ·rw [if_pos q,if_pos q,Option.bind_some]
   simp only
   rw [if_pos (by omega),if_pos (by decide),wV,if_pos (by simp;omega),BJ _ _ _ (by simp;omega),Option.bind_some]
   simp only [List.nil_append]
   by_cases r:10<(((bG 32 (tx s)).map ofTx).filter aG).length
   ·rw [decide_eq_true (by omega),if_pos r];rfl
   ·rw [decide_eq_false (by omega),if_neg r];rfl
  ·rw [if_neg q,if_neg q];rfl
theorem A2 {l:List UInt8} {i:Nat} (h:i<l.length):∃ b r,l.drop i=b::r∧l[i]?=some b∧l.drop (i+1)=r:=by
 refine ⟨l[i],l.drop (i+1),List.drop_eq_getElem_cons h,List.getElem?_eq_getElem h,rfl⟩
theorem GK (s:ByteArray) (hs:s.size≤2000000):∀ (m i a:Nat) (v:List ByteArray) (n:Nat),i+m=(tx s).length→m+1<n→a≤i→v.length+m≤2000000 →
  cF s n v (a:Int) (i:Int)=some (if ((tx s).drop i).all okB=true then .x0 (v++((fQ (seg (tx s) a i) (bG 32 ((tx s).drop i))).map ofTx).filter aG) else .ret [] false)
 | m,i,a,v,n,hi,hn,ha,hv=>by
  obtain ⟨n,rfl⟩:∃ k,n=k+2:=⟨n-2,by omega⟩
  have hsz:=cM s
  unfold cF
  rw [decide_eq_true (by omega:(i:Int)≤(s.size:Int)),cond_true]
  have hinc:inc (i:Int)=((i+1:Nat):Int):=by rw [m8 _ (by omega) (by omega)];omega
  cases m with
  | zero =>
   have hd:(tx s).drop i=[]:=List.drop_eq_nil_of_le (by omega)
   have stop:∀ w b,cF s (n+1) w b ((i+1:Nat):Int)=some (.x0 w):=fun w b=>by
    unfold cF
    rw [decide_eq_false (by omega)];rfl
   have hc:fQ (seg (tx s) a i) (bG 32 ([]:List UInt8))=[seg (tx s) a i]:=by simp [bG,fQ]
   have hf:([seg (tx s) a i].map ofTx).filter aG=if a=i then [] else [s.extract a i]:=by
    rw [List.map_cons,List.map_nil,List.filter_cons,A1,Ec ha (by omega),kg]
    by_cases q:a=i
    ·rw [if_pos q,decide_eq_true q];rfl
    ·rw [if_neg q,decide_eq_false q];rfl
   rw [decide_eq_false (by omega:¬ (i:Int)<(s.size:Int)),cond_false,hinc,hd,hc,hf,List.all_nil,if_pos rfl]
   by_cases q:a=i
   ·rw [decide_eq_false (by omega),cond_false,stop,if_pos q,List.append_nil]
   ·rw [decide_eq_true (by omega),cond_true,if_pos (by omega),if_pos (by simp;omega),stop,if_neg q];rfl
  | succ m =>
   obtain ⟨b,r,hd,hg,hr⟩:=A2 (l:=tx s) (i:=i) (by omega)
   have hb:=Ax hg
   have ih:=fun a' v' (h1:a'≤i+1) (h2:v'.length+m≤2000000)=>GK s hs m (i+1) a' v' (n+1) (by omega) (by omega) h1 h2
   rw [hr] at ih
   rw [decide_eq_true (by omega:(i:Int)<(s.size:Int)),cond_true,if_pos (by omega),hb,hinc,hd,List.all_cons]
   have bl:=b.toNat_lt
   by_cases h:b.toNat<32
   ·rw [decide_eq_true (by omega:((b.toNat:Int)<32)),cond_true,GE h];rfl
   ·rw [decide_eq_false (by omega:¬ ((b.toNat:Int)<32)),cond_false]
    by_cases h':126<b.toNat
    ·rw [decide_eq_true (by omega:((b.toNat:Int)>126)),cond_true,GC h'];rfl
    ·rw [decide_eq_false (by omega:¬ ((b.toNat:Int)>126)),cond_false,GD h h',Bool.true_and]
     by_cases q:b=32
     ·subst q
      have e:(((32:UInt8).toNat:Int) != 32)=false:=by decide
      rw [e,cond_false,oo]
      have hgl:fQ (seg (tx s) a i) ([]::bG 32 r)=seg (tx s) a i::bG 32 r:=by simp [fQ]
      rw [hgl,List.map_cons,List.filter_cons,A1,Ec ha (by omega)]
      have hz:fQ (seg (tx s) (i+1) (i+1)) (bG 32 r)=bG 32 r:=by rw [oO];exact ra _ (fS _ _)
      by_cases q:a=i
      ·have:=ih (i+1) v (by omega) (by omega)
       rw [hz] at this
       rw [decide_eq_false (by omega),cond_false,this,decide_eq_true q];rfl
      ·have:=ih (i+1) (v++[s.extract a i]) (by omega) (by simp;omega)
       rw [hz] at this
       rw [decide_eq_true (by omega),cond_true,if_pos (by omega),if_pos (by simp;omega)]
       rw [show ((a:Int).toNat)=a by omega,show ((i:Int).toNat)=i by omega,this,decide_eq_false q,kg]
       simp
     ·have e:((b.toNat:Int) != 32)=true:=by
       rw [bne_iff_ne]
       intro h
       exact q (UInt8.toNat_inj.1 (by show b.toNat=32;omega))
      rw [e,cond_true,ih a v (by omega) (by omega),k8 q,yH _ _ _ (fS _ _), ← Cg ha hg]
theorem GJ (s:ByteArray):mT s=some (aK s):=by
 unfold mT aK
 by_cases h:600<s.size
 ·rw [decide_eq_true (by omega),if_pos h];rfl
 ·have hz:fQ (seg (tx s) 0 0) (bG 32 (tx s))=bG 32 (tx s):=by rw [oO];exact ra _ (fS _ _)
  have e:=GK s (by omega) (tx s).length 0 0 [] 9223372036854775808 (by omega) (by rw [← cM];omega) (by omega) (by rw [← cM];simp;omega)
  rw [List.drop_zero,hz,List.nil_append] at e
  rw [decide_eq_false (by omega),if_neg h,cond_false]
  refine (congrArg (Option.bind · _) e).trans ?_
  by_cases q:(tx s).all okB=true
  ·rw [if_pos q,if_pos q,Option.bind_some]
   simp only
   by_cases r:10<(((bG 32 (tx s)).map ofTx).filter aG).length
   ·rw [decide_eq_true (by omega),if_pos r];rfl
   ·rw [decide_eq_false (by omega),if_neg r];rfl
  ·rw [if_neg q,if_neg q];rfl
theorem pS {s p:ByteArray} (h:p∈(aK s).1):p.size≤600:=by
 unfold aK at h
 split at h
 ·cases h
 ·rename_i h0
  split at h
  ·split at h
   ·cases h
   ·obtain ⟨x,hx,rfl⟩:=List.mem_map.1 (List.mem_filter.1 h).1
    have:=vj _ _ x hx
    rw [na]
    rw [← cM] at this
    omega
  ·cases h
theorem CE (x0:ByteArray):Does E 66 [.one (tS x0)] [(false,[.s .own () 1 (((aK x0).1).map etS)]),(false,[tB ((aK x0).2)])]:=by
 exact Dq x0 _ (GJ x0)
theorem kq (x0:ByteArray) {bb:Bool} (hbb:(aK x0).2=bb):Does E 66 [.one (tS x0)] [(false,[.s .own () 1 (((aK x0).1).map etS)]),(false,[tB bb])]:=by rw [← hbb];exact CE x0
theorem Cw (x0:ByteArray):Does E 90 [.one (tS x0)] [(false,[.s .own () 1 (((aK x0).1).map etS)]),(false,[tB ((aK x0).2)])]:=by
 exact C3 x0 _ (GI x0)
theorem kp (x0:ByteArray) {bb:Bool} (hbb:(aK x0).2=bb):Does E 90 [.one (tS x0)] [(false,[.s .own () 1 (((aK x0).1).map etS)]),(false,[tB bb])]:=by rw [← hbb];exact Cw x0
inductive oK where
 | ret (v2:Int) (v3:Bool)
 | x0 (v4:Int)
def dL (v0:ByteArray) (v4 v5:Int):US:=stL 42 [(0,.one (tS v0)),(4,.one (tI v4)),(5,.one (tI v5))]
def fP (zv2:Int) (zv3:Bool):US:=stL 42 [(2,.one (tI zv2)),(3,.one (tB zv3))]
def eO (v0:ByteArray) (zv4:Int):US:=stL 42 [(0,.one (tS v0)),(4,.one (tI zv4))]
abbrev ir:US→Exit→US→Prop:=Round E 99 (az Tryz.f99 0)
def vC (v0:ByteArray) (v4 v5:Int):oK→Prop
 | .ret zv2 zv3=>Loops E 99 (az Tryz.f99 0) (dL v0 v4 v5) .ret (fP zv2 zv3)
 | .x0 zv4=>Loops E 99 (az Tryz.f99 0) (dL v0 v4 v5) (.exit 0) (eO v0 zv4)
noncomputable def dM (v0:ByteArray):List Int→Nat→Int→Option oK
 | [],i,v4=>some (.x0 v4)
 | hd::rest,i,v4=>cond (decide (hd<(48:Int)))
  (some (.ret (0:Int) false))
  (cond (decide (hd>(57:Int)))
   (some (.ret (0:Int) false))
   (dM v0 rest (i+1) (IntKind.wrap .i64 ((IntKind.wrap .i64 ((IntKind.wrap .i64 ((10:Int)*v4))+(IntKind.wrap .i64 hd)))-(48:Int)))))
theorem vB (v0:ByteArray) (rest:List Int):∀ (i:Nat) (v4:Int),(bK v0).drop i=rest→v0.size≤9223372036854775807→Ans (dM v0 rest i v4) (vC v0 v4 (i:Int)):=by
 induction rest with
 | nil =>
  intro i v4 hE hl
  have hb:=ou hE
  unfold dM
  exact KB (KD (show ir (dL v0 v4 (i:Int)) (.exit 0) (eO v0 v4) from RP [.b false] (AC hb<|AN)) (by intro h;cases h))
 | cons hd rest ih =>
  intro i v4 hE hl
  have hb:=m5 hE
  have hw:=m6 hE hl
  have hE2:=aJ hE
  have hp:=qj hE
  obtain rfl:=qi hE
  unfold dM
  apply KE<;>intro h2
  ·exact KB (KD (show ir (dL v0 v4 (i:Int)) .ret (fP (0:Int) false) from RP [.b true,.b true] (AC hb<|AC hp<|AC h2<|AN)) (by intro h;cases h))
  ·apply KE<;>intro h3
   ·exact KB (KD (show ir (dL v0 v4 (i:Int)) .ret (fP (0:Int) false) from RP [.b true,.b false,.b true] (AC hb<|AC hp<|AC h2<|AC hp<|AC h3<|AN)) (by intro h;cases h))
   ·exact (ih (i+1) (IntKind.wrap .i64 ((IntKind.wrap .i64 ((IntKind.wrap .i64 ((10:Int)*v4))+(IntKind.wrap .i64 (fg v0 (i:Int)))))-(48:Int))) hE2 hl).mono fun y hy=>by have r:ir (dL v0 v4 (i:Int)) .normal (dL v0 (IntKind.wrap .i64 ((IntKind.wrap .i64 ((IntKind.wrap .i64 ((10:Int)*v4))+(IntKind.wrap .i64 (fg v0 (i:Int)))))-(48:Int))) (inc (i:Int))):=RP [.b true,.b false,.b false] (AC hb<|AC hp<|AC h2<|AC hp<|AC h3<|AC hp<|AN);rw [hw] at r;cases y<;>exact KC r hy
noncomputable def i7 (x0:ByteArray):Option (Int×Bool) :=
  cond (decide ((x0.size:Int)>(10:Int)))
   (some ((0:Int),false))
   (if x0.size≤9223372036854775807 then (dM x0 (bK x0) 0 (0:Int)).bind fun y=>match y with
    | .ret w0_2 w0_3=>(some (w0_2,w0_3))
    | .x0 w0_4=>(cond (decide (w0_4>(1000000000:Int)))
     (some ((0:Int),false))
     (if -9223372036854775808≤w0_4∧w0_4≤9223372036854775807 then cond (!((bf w0_4).toList==x0.toList))
      (some ((0:Int),false))
      (some (w0_4,true)) else none)) else none)
theorem wQ (x0:ByteArray):Ans (i7 x0) (fun r=>Does E 99 [.one (tS x0)] [(false,[tI r.1]),(false,[tB r.2])]):=by
 unfold i7
 apply KE<;>intro h0
 ·exact KB (DP Tryz.f99 [.b true] (AC h0<|AN))
 ·refine KG (fun hl2 => ?_)
  refine KF (fun y hy => ?_)
  replace hy:=vB x0 (bK x0) 0 (0:Int) rfl hl2 y hy
  cases y with
  | ret w0_2 w0_3 =>
   have h1:=hy
   exact KB (DP Tryz.f99 [.b false,.lp .ret (fP w0_2 w0_3)] (AC h0<|AL h1<|AN))
  | x0 w0_4 =>
   have h1:=hy
   apply KE<;>intro h2
   ·exact KB (DP Tryz.f99 [.b false,.lp (.exit 0) (eO x0 w0_4),.b true] (AC h0<|AL h1<|AC h2<|AN))
   ·refine KG (fun h3 => ?_)
    apply KE<;>intro h4
    ·exact KB (DP Tryz.f99 [.b false,.lp (.exit 0) (eO x0 w0_4),.b false,.ret [(false,[tS (bf w0_4)])],.b true] (AC h0<|AL h1<|AC h2<|AD (mK w0_4 h3)<|AC h4<|AN))
    ·exact KB (DP Tryz.f99 [.b false,.lp (.exit 0) (eO x0 w0_4),.b false,.ret [(false,[tS (bf w0_4)])],.b false] (AC h0<|AL h1<|AC h2<|AD (mK w0_4 h3)<|AC h4<|AN))
inductive oy where
 | ret (v2:Int) (v3:Bool)
 | x0 (v4:Int)
def dH (v0:ByteArray) (v4 v5:Int):US:=stL 47 [(0,.one (tS v0)),(4,.one (tI v4)),(5,.one (tI v5))]
def fN (zv2:Int) (zv3:Bool):US:=stL 47 [(2,.one (tI zv2)),(3,.one (tB zv3))]
def eK (v0:ByteArray) (zv4:Int):US:=stL 47 [(0,.one (tS v0)),(4,.one (tI zv4))]
abbrev ig:US→Exit→US→Prop:=Round E 114 (az Tryz.f114 0)
def vr (v0:ByteArray) (v4 v5:Int):oy→Prop
 | .ret zv2 zv3=>Loops E 114 (az Tryz.f114 0) (dH v0 v4 v5) .ret (fN zv2 zv3)
 | .x0 zv4=>Loops E 114 (az Tryz.f114 0) (dH v0 v4 v5) (.exit 0) (eK v0 zv4)
noncomputable def dI (v0:ByteArray):List Int→Nat→Int→Option oy
 | [],i,v4=>some (.x0 v4)
 | hd::rest,i,v4=>cond (decide (hd<(48:Int)))
  (some (.ret (0:Int) false))
  (cond (decide (hd>(57:Int)))
   (some (.ret (0:Int) false))
   (dI v0 rest (i+1) (IntKind.wrap .i64 ((IntKind.wrap .i64 (v4*(10:Int)))+(IntKind.wrap .i64 (IntKind.wrap .u8 (hd-(48:Int))))))))
theorem vq (v0:ByteArray) (rest:List Int):∀ (i:Nat) (v4:Int),(bK v0).drop i=rest→v0.size≤9223372036854775807→Ans (dI v0 rest i v4) (vr v0 v4 (i:Int)):=by
 induction rest with
 | nil =>
  intro i v4 hE hl
  have hb:=ou hE
  unfold dI
  exact KB (KD (show ig (dH v0 v4 (i:Int)) (.exit 0) (eK v0 v4) from RP [.b false] (AC hb<|AN)) (by intro h;cases h))
 | cons hd rest ih =>
  intro i v4 hE hl
  have hb:=m5 hE
  have hw:=m6 hE hl
  have hE2:=aJ hE
  have hp:=qj hE
  obtain rfl:=qi hE
  unfold dI
  apply KE<;>intro h2
  ·exact KB (KD (show ig (dH v0 v4 (i:Int)) .ret (fN (0:Int) false) from RP [.b true,.b true] (AC hb<|AC hp<|AC h2<|AN)) (by intro h;cases h))
  ·apply KE<;>intro h3
   ·exact KB (KD (show ig (dH v0 v4 (i:Int)) .ret (fN (0:Int) false) from RP [.b true,.b false,.b true] (AC hb<|AC hp<|AC h2<|AC hp<|AC h3<|AN)) (by intro h;cases h))
   ·exact (ih (i+1) (IntKind.wrap .i64 ((IntKind.wrap .i64 (v4*(10:Int)))+(IntKind.wrap .i64 (IntKind.wrap .u8 ((fg v0 (i:Int))-(48:Int)))))) hE2 hl).mono fun y hy=>by have r:ig (dH v0 v4 (i:Int)) .normal (dH v0 (IntKind.wrap .i64 ((IntKind.wrap .i64 (v4*(10:Int)))+(IntKind.wrap .i64 (IntKind.wrap .u8 ((fg v0 (i:Int))-(48:Int)))))) (inc (i:Int))):=RP [.b true,.b false,.b false] (AC hb<|AC hp<|AC h2<|AC hp<|AC h3<|AC hp<|AN);rw [hw] at r;cases y<;>exact KC r hy
noncomputable def iW (x0:ByteArray):Option (Int×Bool) :=
  cond ((x0.size:Int)==(0:Int))
   (some ((0:Int),false))
   (cond (decide ((x0.size:Int)>(10:Int)))
    (some ((0:Int),false))
    (if x0.size≤9223372036854775807 then (dI x0 (bK x0) 0 (0:Int)).bind fun y=>match y with
     | .ret w0_2 w0_3=>(some (w0_2,w0_3))
     | .x0 w0_4=>(cond (decide (w0_4>(1000000000:Int)))
      (some ((0:Int),false))
      (if -9223372036854775808≤w0_4∧w0_4≤9223372036854775807 then cond (!((bf w0_4).toList==x0.toList))
       (some ((0:Int),false))
       (some (w0_4,true)) else none)) else none))
theorem wq (x0:ByteArray):Ans (iW x0) (fun r=>Does E 114 [.one (tS x0)] [(false,[tI r.1]),(false,[tB r.2])]):=by
 unfold iW
 apply KE<;>intro h0
 ·exact KB (DP Tryz.f114 [.b true] (AC h0<|AN))
 ·apply KE<;>intro h1
  ·exact KB (DP Tryz.f114 [.b false,.b true] (AC h0<|AC h1<|AN))
  ·refine KG (fun hl3 => ?_)
   refine KF (fun y hy => ?_)
   replace hy:=vq x0 (bK x0) 0 (0:Int) rfl hl3 y hy
   cases y with
   | ret w0_2 w0_3 =>
    have h2:=hy
    exact KB (DP Tryz.f114 [.b false,.b false,.lp .ret (fN w0_2 w0_3)] (AC h0<|AC h1<|AL h2<|AN))
   | x0 w0_4 =>
    have h2:=hy
    apply KE<;>intro h3
    ·exact KB (DP Tryz.f114 [.b false,.b false,.lp (.exit 0) (eK x0 w0_4),.b true] (AC h0<|AC h1<|AL h2<|AC h3<|AN))
    ·refine KG (fun h4 => ?_)
     apply KE<;>intro h5
     ·exact KB (DP Tryz.f114 [.b false,.b false,.lp (.exit 0) (eK x0 w0_4),.b false,.ret [(false,[tS (bf w0_4)])],.b true] (AC h0<|AC h1<|AL h2<|AC h3<|AD (pC w0_4 h4)<|AC h5<|AN))
     ·exact KB (DP Tryz.f114 [.b false,.b false,.lp (.exit 0) (eK x0 w0_4),.b false,.ret [(false,[tS (bf w0_4)])],.b false] (AC h0<|AC h1<|AL h2<|AC h3<|AD (pC w0_4 h4)<|AC h5<|AN))
def jL:List UInt8→Int→Option Int
 | [],v=>some v
 | b::l,v=>if 48≤b.toNat∧b.toNat≤57 then jL l (10*v+((b.toNat:Int)-48)) else none
noncomputable def aa (s:ByteArray):Int×Bool :=
 if 10<s.size then (0,false) else match jL (tx s) 0 with
  | none=>(0,false)
  | some n=>if 1000000000<n then (0,false) else if tx (bf n)=tx s then (n,true) else (0,false)
theorem uU:∀ (l:List UInt8) (v:Int) (k:Nat) (r:Int),0≤v→v<10 ^ k→jL l v=some r→0≤r∧r<10 ^ (k+l.length)
 | [],v,k,r,h0,h1,h=>by cases h;exact ⟨h0,h1⟩
 | b::l,v,k,r,h0,h1,h=>by
  unfold jL at h
  split at h
  ·rename_i hb
   have:=uU l (10*v+((b.toNat:Int)-48)) (k+1) r (by omega) (by rw [Int.pow_succ];omega) h
   rw [List.length_cons,show k+(l.length+1)=k+1+l.length by omega]
   exact this
  ·cases h
theorem BO {k n:Nat} (h:k≤n):(10:Int) ^ k≤10 ^ n:=by
 have:=Nat.pow_le_pow_right (n:=10) (by omega) h
 have e:∀ m:Nat,(10:Int) ^ m=((10 ^ m:Nat):Int):=fun m=>by simp
 rw [e,e];omega
theorem BQ (s:ByteArray):∀ (l:List UInt8) (i:Nat) (v:Int) (k:Nat),0≤v→v<10 ^ k→k+l.length≤10 →
  dM s (l.map fun b=>(b.toNat:Int)) i v=some (match jL l v with | some r => .x0 r | none => .ret 0 false) ∧
  dI s (l.map fun b=>(b.toNat:Int)) i v=some (match jL l v with | some r => .x0 r | none => .ret 0 false)
 | [],i,v,k,_,_,_=>⟨rfl,rfl⟩
 | b::l,i,v,k,h0,h1,hk=>by
  have hp:=BO (show k≤10 by omega)
  have e10:(10:Int) ^ 10=10000000000:=by decide
  rw [List.map_cons]
  unfold dM dI jL
  have bl:=b.toNat_lt
  by_cases h:b.toNat<48
  ·rw [decide_eq_true (by omega:((b.toNat:Int)<48)),if_neg (by omega)]
   exact ⟨rfl,rfl⟩
  ·rw [decide_eq_false (by omega:¬ ((b.toNat:Int)<48)),cond_false,cond_false]
   by_cases h':57<b.toNat
   ·rw [decide_eq_true (by omega:((b.toNat:Int)>57)),if_neg (by omega)]
    exact ⟨rfl,rfl⟩
   ·rw [decide_eq_false (by omega:¬ ((b.toNat:Int)>57)),if_pos (by omega),cond_false,cond_false]
    have w1:IntKind.wrap .i64 (IntKind.wrap .i64 (IntKind.wrap .i64 (10*v)+IntKind.wrap .i64 (b.toNat:Int))-48)=10*v+((b.toNat:Int)-48):=by
     rw [di (10*v) (by omega) (by omega),di (b.toNat:Int) (by omega) (by omega),di (10*v+(b.toNat:Int)) (by omega) (by omega),di _ (by omega) (by omega)];omega
    have w2:IntKind.wrap .i64 (IntKind.wrap .i64 (v*10)+IntKind.wrap .i64 (IntKind.wrap .u8 ((b.toNat:Int)-48)))=10*v+((b.toNat:Int)-48):=by
     rw [Ij (by omega) (by omega),di (v*10) (by omega) (by omega),di ((b.toNat:Int)-48) (by omega) (by omega),di _ (by omega) (by omega)];omega
    rw [w1,w2]
    simp only [List.length_cons] at hk
    exact BQ s l (i+1) _ (k+1) (by omega) (by rw [Int.pow_succ];omega) (by omega)
theorem pT {s:ByteArray} (h:¬ 10<s.size) {r:Int} (hr:jL (tx s) 0=some r):0≤r∧r<10000000000:=by
 have:=uU (tx s) 0 0 r (by omega) (by decide) hr
 have hp:=BO (show 0+(tx s).length≤10 by rw [← cM];omega)
 have e10:(10:Int) ^ 10=10000000000:=by decide
 omega
theorem GO (s:ByteArray):i7 s=some (aa s):=by
 unfold i7 aa
 by_cases h:10<s.size
 ·rw [decide_eq_true (by omega),if_pos h];rfl
 ·obtain ⟨e, -⟩:=BQ s (tx s) 0 0 0 (by omega) (by decide) (by rw [← cM];omega)
  rw [decide_eq_false (by omega),if_neg h,cond_false,if_pos (by omega),nX,e]
  cases q:jL (tx s) 0 with
  | none=>rfl
  | some n =>
   obtain ⟨n0,n1⟩:=pT h q
   simp only [Option.bind_some]
   by_cases z:1000000000<n
   ·rw [decide_eq_true (by omega),if_pos z];rfl
   ·rw [decide_eq_false (by omega),if_neg z,cond_false,if_pos (by omega),iy]
    by_cases y:tx (bf n)=tx s
    ·rw [decide_eq_true y,if_pos y];rfl
    ·rw [decide_eq_false y,if_neg y];rfl
theorem GN (s:ByteArray):iW s=some (aa s):=by
 unfold iW aa
 by_cases hz:s.size=0
 ·have ht:tx s=[]:=List.eq_nil_of_length_eq_zero (by rw [← cM];exact hz)
  have e1:((s.size:Int)==0)=true:=by rw [hz];rfl
  rw [e1,cond_true,if_neg (by omega),ht]
  unfold jL
  simp only
  have:¬ tx (bf 0)=[]:=by
   unfold bf Lib.itoa
   rw [if_neg (by omega),Lib.decDigits,dif_pos (by simp)]
   simp [tx]
  rw [if_neg (by omega),if_neg this]
 have e1:((s.size:Int)==0)=false:=by rw [beq_eq_false_iff_ne];omega
 rw [e1,cond_false]
 by_cases h:10<s.size
 ·rw [decide_eq_true (by omega),if_pos h];rfl
 ·obtain ⟨-,e⟩:=BQ s (tx s) 0 0 0 (by omega) (by decide) (by rw [← cM];omega)
  rw [decide_eq_false (by omega),if_neg h,cond_false,if_pos (by omega),nX,e]
  cases q:jL (tx s) 0 with
  | none=>rfl
  | some n =>
   obtain ⟨n0,n1⟩:=pT h q
   simp only [Option.bind_some]
   by_cases z:1000000000<n
   ·rw [decide_eq_true (by omega),if_pos z];rfl
   ·rw [decide_eq_false (by omega),if_neg z,cond_false,if_pos (by omega),iy]
    by_cases y:tx (bf n)=tx s
    ·rw [decide_eq_true y,if_pos y];rfl
    ·rw [decide_eq_false y,if_neg y];rfl
theorem Fl (s:ByteArray):0≤(aa s).1∧(aa s).1≤1000000000:=by
 unfold aa
 split
 ·exact ⟨Int.le_refl _,by decide⟩
 ·rename_i h
  split
  ·exact ⟨Int.le_refl _,by decide⟩
  ·rename_i n q
   obtain ⟨n0,n1⟩:=pT h q
   split
   ·exact ⟨Int.le_refl _,by decide⟩
   ·split
    ·exact ⟨n0,by show n≤_;omega⟩
    ·exact ⟨Int.le_refl _,by decide⟩
theorem yQ:∀ {l:List UInt8} {b:UInt8} (v:Int),b∈l→¬ (48≤b.toNat∧b.toNat≤57)→jL l v=none
 | x::l,b,v,h,hb=>by
  unfold jL
  rcases List.mem_cons.1 h with rfl | h
  ·rw [if_neg hb]
  ·split
   ·exact yQ _ h hb
   ·rfl
theorem uT {s:ByteArray} {b:UInt8} (h:b∈tx s) (hb:¬ (48≤b.toNat∧b.toNat≤57)):aa s=(0,false):=by
 unfold aa
 rw [yQ 0 h hb]
 split<;>rfl
theorem ls (x0:ByteArray):Does E 99 [.one (tS x0)] [(false,[tI ((aa x0).1)]),(false,[tB ((aa x0).2)])]:=by
 exact wQ x0 _ (GO x0)
theorem av (x0:ByteArray) {bb:Bool} (hbb:(aa x0).2=bb):Does E 99 [.one (tS x0)] [(false,[tI ((aa x0).1)]),(false,[tB bb])]:=by rw [← hbb];exact ls x0
theorem oW (x0:ByteArray):Does E 114 [.one (tS x0)] [(false,[tI ((aa x0).1)]),(false,[tB ((aa x0).2)])]:=by
 exact wq x0 _ (GN x0)
theorem bc (x0:ByteArray) {bb:Bool} (hbb:(aa x0).2=bb):Does E 114 [.one (tS x0)] [(false,[tI ((aa x0).1)]),(false,[tB bb])]:=by rw [← hbb];exact oW x0
inductive sk where
 | x0 (v5:List ByteArray)
def eo (v0:ByteArray) (v1:Int) (v5:List ByteArray) (v6 v7:Int):US:=stL 36 [(0,.one (tS v0)),(1,.one (tY v1)),(5,.one (.s .own () 1 (v5.map etS))),(6,.one (tI v6)),(7,.one (tI v7))]
def l9 (zv5:List ByteArray):US:=stL 36 [(5,.one (.s .own () 1 (zv5.map etS)))]
abbrev kC:US→Exit→US→Prop:=Round E 86 (az Tryz.f86 0)
def zD (v0:ByteArray) (v1:Int) (v5:List ByteArray) (v6 v7:Int):sk→Prop
 | .x0 zv5=>Loops E 86 (az Tryz.f86 0) (eo v0 v1 v5 v6 v7) (.exit 0) (l9 zv5)
noncomputable def c8 (v0:ByteArray) (v1:Int):Nat→(List ByteArray)→Int→Int→Option sk
 | 0,_,_,_=>none
 | n+1,v5,v6,v7=>cond (decide (v7≤(v0.size:Int)))
  (cond (v7==(v0.size:Int))
   (if 0≤v6∧v6≤v7∧v7≤(v0.size:Int) then if (v5.length+([v0.extract v6.toNat v7.toNat]).length)*16≤140737488355328∧v5.length+([v0.extract v6.toNat v7.toNat]).length≤4611686018427387904 then c8 v0 v1 n (v5++([v0.extract v6.toNat v7.toNat])) (inc v7) (inc v7) else none else none)
   (if 0≤v7∧v7<(v0.size:Int) then cond ((fg v0 v7)==v1)
    (if 0≤v6∧v6≤v7∧v7≤(v0.size:Int) then if (v5.length+([v0.extract v6.toNat v7.toNat]).length)*16≤140737488355328∧v5.length+([v0.extract v6.toNat v7.toNat]).length≤4611686018427387904 then c8 v0 v1 n (v5++([v0.extract v6.toNat v7.toNat])) (inc v7) (inc v7) else none else none)
    (c8 v0 v1 n v5 v6 (inc v7)) else none))
  (some (.x0 v5))
theorem zC (v0:ByteArray) (v1:Int) (n:Nat):∀ (v5:List ByteArray) (v6 v7:Int),Ans (c8 v0 v1 n v5 v6 v7) (zD v0 v1 v5 v6 v7):=by
 induction n with
 | zero=>intros;exact Ans.none
 | succ n ih =>
  intro v5 v6 v7
  unfold c8
  apply KE<;>intro h0
  ·apply KE<;>intro h1
   ·refine KG (fun h2 => ?_)
    refine KG (fun h3 => ?_)
    have r:kC (eo v0 v1 v5 v6 v7) .normal (eo v0 v1 (v5++([v0.extract v6.toNat v7.toNat])) (inc v7) (inc v7)):=RP [.b true,.b true,.rows ((v5++([v0.extract v6.toNat v7.toNat])).map etS)] (AC h0<|AC h1<|AC h2<|AAp etS (fun _=>rfl) h3<|AN);exact (ih (v5++([v0.extract v6.toNat v7.toNat])) (inc v7) (inc v7)).mono fun y hy=>by cases y<;>exact KC r hy
   ·refine KG (fun h2 => ?_)
    apply KE<;>intro h3
    ·refine KG (fun h4 => ?_)
     refine KG (fun h5 => ?_)
     have r:kC (eo v0 v1 v5 v6 v7) .normal (eo v0 v1 (v5++([v0.extract v6.toNat v7.toNat])) (inc v7) (inc v7)):=RP [.b true,.b false,.b true,.rows ((v5++([v0.extract v6.toNat v7.toNat])).map etS)] (AC h0<|AC h1<|AC h2<|AC h3<|AC h4<|AAp etS (fun _=>rfl) h5<|AN);exact (ih (v5++([v0.extract v6.toNat v7.toNat])) (inc v7) (inc v7)).mono fun y hy=>by cases y<;>exact KC r hy
    ·have r:kC (eo v0 v1 v5 v6 v7) .normal (eo v0 v1 v5 v6 (inc v7)):=RP [.b true,.b false,.b false] (AC h0<|AC h1<|AC h2<|AC h3<|AN);exact (ih v5 v6 (inc v7)).mono fun y hy=>by cases y<;>exact KC r hy
  ·exact KB (KD (show kC (eo v0 v1 v5 v6 v7) (.exit 0) (l9 v5) from RP [.b false] (AC h0<|AN)) (by intro h;cases h))
noncomputable def mb (x0:ByteArray) (x1:Int):Option ((List ByteArray)) :=
  (c8 x0 x1 9223372036854775808 ([]) (0:Int) (0:Int)).bind fun y=>match y with
   | .x0 w0_5=>(some (w0_5))
theorem Cb (x0:ByteArray) (x1:Int):Ans (mb x0 x1) (fun r=>Does E 86 [.one (tS x0),.one (tY x1)] [(false,[.s .own () 1 (r.map etS)])]):=by
 unfold mb
 refine KF (fun y hy => ?_)
 replace hy:=zC x0 x1 9223372036854775808 ([]) (0:Int) (0:Int) y hy
 cases y with
 | x0 w0_5 =>
  have h0:=hy
  exact KB (DP Tryz.f86 [.lp (.exit 0) (l9 w0_5)] (AL h0<|AN))
noncomputable def aj (s:ByteArray) (c:Int):List ByteArray:=(bG (UInt8.ofNat c.toNat) (tx s)).map ofTx
theorem G3 (s:ByteArray) (c:UInt8) (hs:s.size≤2000000):∀ (m i a:Nat) (v:List ByteArray) (n:Nat),i+m=(tx s).length→m+1<n→a≤i→v.length+m≤2000000 →
  c8 s (c.toNat:Int) n v (a:Int) (i:Int)=some (.x0 (v++(fQ (seg (tx s) a i) (bG c ((tx s).drop i))).map ofTx))
 | m,i,a,v,n,hi,hn,ha,hv=>by
  obtain ⟨n,rfl⟩:∃ k,n=k+2:=⟨n-2,by omega⟩
  have hsz:=cM s
  unfold c8
  rw [decide_eq_true (by omega:(i:Int)≤(s.size:Int)),cond_true]
  have hinc:inc (i:Int)=((i+1:Nat):Int):=by rw [m8 _ (by omega) (by omega)];omega
  cases m with
  | zero =>
   have hd:(tx s).drop i=[]:=List.drop_eq_nil_of_le (by omega)
   have stop:∀ w b,c8 s (c.toNat:Int) (n+1) w b ((i+1:Nat):Int)=some (.x0 w):=fun w b=>by
    unfold c8
    rw [decide_eq_false (by omega)];rfl
   have hc:fQ (seg (tx s) a i) (bG c ([]:List UInt8))=[seg (tx s) a i]:=by simp [bG,fQ]
   have e:((i:Int)==(s.size:Int))=true:=by rw [beq_iff_eq];omega
   rw [e,cond_true,if_pos (by omega),if_pos (by simp;omega),hinc,stop,hd,hc,show ((a:Int).toNat)=a by omega,show ((i:Int).toNat)=i by omega,kg];rfl
  | succ m =>
   obtain ⟨b,r,hd,hg,hr⟩:=A2 (l:=tx s) (i:=i) (by omega)
   have hb:=Ax hg
   have ih:=fun a' v' (h1:a'≤i+1) (h2:v'.length+m≤2000000)=>G3 s c hs m (i+1) a' v' (n+1) (by omega) (by omega) h1 h2
   rw [hr] at ih
   have e:((i:Int)==(s.size:Int))=false:=by rw [beq_eq_false_iff_ne];omega
   rw [e,cond_false,if_pos (by omega),hb,hinc,hd]
   by_cases q:b=c
   ·subst q
    have hgl:fQ (seg (tx s) a i) ([]::bG b r)=seg (tx s) a i::bG b r:=by simp [fQ]
    have hz:fQ (seg (tx s) (i+1) (i+1)) (bG b r)=bG b r:=by rw [oO];exact ra _ (fS _ _)
    have:=ih (i+1) (v++[s.extract a i]) (by omega) (by simp;omega)
    rw [hz] at this
    rw [beq_self_eq_true,cond_true,if_pos (by omega),if_pos (by simp;omega),oo,hgl]
    rw [show ((a:Int).toNat)=a by omega,show ((i:Int).toNat)=i by omega,this,kg]
    simp
   ·have e:((b.toNat:Int)==(c.toNat:Int))=false:=by
     rw [beq_eq_false_iff_ne]
     intro h
     exact q (UInt8.toNat_inj.1 (by omega))
    rw [e,cond_false,ih a v (by omega) (by omega),k8 q,yH _ _ _ (fS _ _), ← Cg ha hg]
theorem Fa (s:ByteArray) (c:Int) (hs:s.size≤2000000) (hc:0≤c∧c<256):mb s c=some (aj s c):=by
 have hz:fQ (seg (tx s) 0 0) (bG (UInt8.ofNat c.toNat) (tx s))=bG (UInt8.ofNat c.toNat) (tx s):=by rw [oO];exact ra _ (fS _ _)
 have e:=G3 s (UInt8.ofNat c.toNat) hs (tx s).length 0 0 [] 9223372036854775808 (by omega) (by rw [← cM];omega) (by omega) (by rw [← cM];simp;omega)
 have ec:(((UInt8.ofNat c.toNat).toNat:Nat):Int)=c:=by rw [UInt8.toNat_ofNat'];omega
 rw [List.drop_zero,hz,List.nil_append,ec] at e
 unfold mb aj
 refine (congrArg (Option.bind · _) e).trans ?_
 rfl
theorem aS (x0:ByteArray) (x1:Int) (h:x0.size≤2000000) (hc:0≤x1∧x1<256):Does E 86 [.one (tS x0),.one (tY x1)] [(false,[.s .own () 1 ((aj x0 x1).map etS)])]:=by
 exact Cb x0 x1 _ (Fa x0 x1 h hc)
noncomputable def jr (x0:ByteArray) (x1 x2:Int):Option (Int×Int×Int×Bool) :=
  cond (x0.toList==(⟨#[42]⟩:ByteArray).toList)
   (some (x1,x2,(1:Int),true))
   (cond (decide ((x0.size:Int)>(2:Int)))
    (if 0≤(0:Int)∧(0:Int)≤(2:Int)∧(2:Int)≤(x0.size:Int) then cond ((x0.extract (0:Int).toNat (2:Int).toNat).toList==(⟨#[42,47]⟩:ByteArray).toList)
     (if 0≤(2:Int)∧(2:Int)≤(x0.size:Int)∧(x0.size:Int)≤(x0.size:Int) then cond ((aa (x0.extract (2:Int).toNat (x0.size:Int).toNat)).2)
      (some (x1,x2,(aa (x0.extract (2:Int).toNat (x0.size:Int).toNat)).1,decide (((aa (x0.extract (2:Int).toNat (x0.size:Int).toNat)).1)≥(1:Int))))
      (some (x1,x2,(aa (x0.extract (2:Int).toNat (x0.size:Int).toNat)).1,false)) else none)
     (if x0.size≤2000000 then if 0≤(45:Int)∧(45:Int)<256 then (aq (aj x0 (45:Int)) (0:Int)).bind fun g0=>cond ((aa g0).2)
      (cond (((aj x0 (45:Int)).length:Int)==(2:Int))
       ((aq (aj x0 (45:Int)) (1:Int)).bind fun g1=>cond ((aa g1).2)
        (cond (decide (((aj x0 (45:Int)).length:Int)≤(2:Int)))
         (cond (decide (x1≤((aa g0).1)))
          (cond (decide (((aa g0).1)≤((aa g1).1)))
           (some ((aa g0).1,(aa g1).1,(1:Int),decide (((aa g1).1)≤x2)))
           (some ((aa g0).1,(aa g1).1,(1:Int),false)))
          (some ((aa g0).1,(aa g1).1,(1:Int),false)))
         (some ((aa g0).1,(aa g1).1,(1:Int),false)))
        (some ((aa g0).1,(aa g1).1,(1:Int),false)))
       (cond (decide (((aj x0 (45:Int)).length:Int)≤(2:Int)))
        (cond (decide (x1≤((aa g0).1)))
         (cond (decide (((aa g0).1)≤((aa g0).1)))
          (some ((aa g0).1,(aa g0).1,(1:Int),decide (((aa g0).1)≤x2)))
          (some ((aa g0).1,(aa g0).1,(1:Int),false)))
         (some ((aa g0).1,(aa g0).1,(1:Int),false)))
        (some ((aa g0).1,(aa g0).1,(1:Int),false))))
      (cond (((aj x0 (45:Int)).length:Int)==(2:Int))
       ((aq (aj x0 (45:Int)) (1:Int)).bind fun g1=>some ((aa g0).1,(aa g1).1,(1:Int),false))
       (some ((aa g0).1,(aa g0).1,(1:Int),false))) else none else none) else none)
    (if x0.size≤2000000 then if 0≤(45:Int)∧(45:Int)<256 then (aq (aj x0 (45:Int)) (0:Int)).bind fun g0=>cond ((aa g0).2)
     (cond (((aj x0 (45:Int)).length:Int)==(2:Int))
      ((aq (aj x0 (45:Int)) (1:Int)).bind fun g1=>cond ((aa g1).2)
       (cond (decide (((aj x0 (45:Int)).length:Int)≤(2:Int)))
        (cond (decide (x1≤((aa g0).1)))
         (cond (decide (((aa g0).1)≤((aa g1).1)))
          (some ((aa g0).1,(aa g1).1,(1:Int),decide (((aa g1).1)≤x2)))
          (some ((aa g0).1,(aa g1).1,(1:Int),false)))
         (some ((aa g0).1,(aa g1).1,(1:Int),false)))
        (some ((aa g0).1,(aa g1).1,(1:Int),false)))
       (some ((aa g0).1,(aa g1).1,(1:Int),false)))
      (cond (decide (((aj x0 (45:Int)).length:Int)≤(2:Int)))
       (cond (decide (x1≤((aa g0).1)))
        (cond (decide (((aa g0).1)≤((aa g0).1)))
         (some ((aa g0).1,(aa g0).1,(1:Int),decide (((aa g0).1)≤x2)))
         (some ((aa g0).1,(aa g0).1,(1:Int),false)))
        (some ((aa g0).1,(aa g0).1,(1:Int),false)))
       (some ((aa g0).1,(aa g0).1,(1:Int),false))))
     (cond (((aj x0 (45:Int)).length:Int)==(2:Int))
      ((aq (aj x0 (45:Int)) (1:Int)).bind fun g1=>some ((aa g0).1,(aa g1).1,(1:Int),false))
      (some ((aa g0).1,(aa g0).1,(1:Int),false))) else none else none))
theorem B8 (x0:ByteArray) (x1 x2:Int):Ans (jr x0 x1 x2) (fun r=>Does E 87 [.one (tS x0),.one (tI x1),.one (tI x2)] [(false,[tI r.1]),(false,[tI r.2.1]),(false,[tI r.2.2.1]),(false,[tB r.2.2.2])]):=by
 unfold jr
 apply KE<;>intro h0
 ·exact KB (DP Tryz.f87 [.b true] (AC h0<|AN))
 ·apply KE<;>intro h1
  ·refine KG (fun h2 => ?_)
   apply KE<;>intro h3
   ·refine KG (fun h4 => ?_)
    apply KE<;>intro h5
    ·exact KB (DP Tryz.f87 [.b false,.b true,.b true,.ret [(false,[tI ((aa (x0.extract (2:Int).toNat (x0.size:Int).toNat)).1)]),(false,[tB true])]] (AC h0<|AC h1<|AC h2<|AC h3<|AC h4<|AD (av (x0.extract (2:Int).toNat (x0.size:Int).toNat) h5)<|AN))
    ·exact KB (DP Tryz.f87 [.b false,.b true,.b true,.ret [(false,[tI ((aa (x0.extract (2:Int).toNat (x0.size:Int).toNat)).1)]),(false,[tB false])]] (AC h0<|AC h1<|AC h2<|AC h3<|AC h4<|AD (av (x0.extract (2:Int).toNat (x0.size:Int).toNat) h5)<|AN))
   ·refine KG (fun h4 => ?_)
    refine KG (fun h5 => ?_)
    refine KF (fun g0 h6 => ?_)
    apply KE<;>intro h7
    ·apply KE<;>intro h8
     ·refine KF (fun g1 h9 => ?_)
      apply KE<;>intro h10
      ·apply KE<;>intro h11
       ·apply KE<;>intro h12
        ·apply KE<;>intro h13
         ·exact KB (DP Tryz.f87 [.b false,.b true,.b false,.ret [(false,[.s .own () 1 ((aj x0 (45:Int)).map etS)])],.row (etS g0),.ret [(false,[tI ((aa g0).1)]),(false,[tB true])],.val (.int .i64 ((aj x0 (45:Int)).length:Int)),.b true,.row (etS g1),.ret [(false,[tI ((aa g1).1)]),(false,[tB true])],.val (.int .i64 ((aj x0 (45:Int)).length:Int)),.b true,.b true,.b true] (AC h0<|AC h1<|AC h2<|AC h3<|AD (aS x0 (45:Int) h4 h5)<|AG etS h6<|AD (av g0 h7)<|ALn (aj x0 (45:Int)) etS<|AC h8<|AG etS h9<|AD (av g1 h10)<|ALn (aj x0 (45:Int)) etS<|AC h11<|AC h12<|AC h13<|AN))
         ·exact KB (DP Tryz.f87 [.b false,.b true,.b false,.ret [(false,[.s .own () 1 ((aj x0 (45:Int)).map etS)])],.row (etS g0),.ret [(false,[tI ((aa g0).1)]),(false,[tB true])],.val (.int .i64 ((aj x0 (45:Int)).length:Int)),.b true,.row (etS g1),.ret [(false,[tI ((aa g1).1)]),(false,[tB true])],.val (.int .i64 ((aj x0 (45:Int)).length:Int)),.b true,.b true,.b false] (AC h0<|AC h1<|AC h2<|AC h3<|AD (aS x0 (45:Int) h4 h5)<|AG etS h6<|AD (av g0 h7)<|ALn (aj x0 (45:Int)) etS<|AC h8<|AG etS h9<|AD (av g1 h10)<|ALn (aj x0 (45:Int)) etS<|AC h11<|AC h12<|AC h13<|AN))
        ·exact KB (DP Tryz.f87 [.b false,.b true,.b false,.ret [(false,[.s .own () 1 ((aj x0 (45:Int)).map etS)])],.row (etS g0),.ret [(false,[tI ((aa g0).1)]),(false,[tB true])],.val (.int .i64 ((aj x0 (45:Int)).length:Int)),.b true,.row (etS g1),.ret [(false,[tI ((aa g1).1)]),(false,[tB true])],.val (.int .i64 ((aj x0 (45:Int)).length:Int)),.b true,.b false] (AC h0<|AC h1<|AC h2<|AC h3<|AD (aS x0 (45:Int) h4 h5)<|AG etS h6<|AD (av g0 h7)<|ALn (aj x0 (45:Int)) etS<|AC h8<|AG etS h9<|AD (av g1 h10)<|ALn (aj x0 (45:Int)) etS<|AC h11<|AC h12<|AN))
       ·exact KB (DP Tryz.f87 [.b false,.b true,.b false,.ret [(false,[.s .own () 1 ((aj x0 (45:Int)).map etS)])],.row (etS g0),.ret [(false,[tI ((aa g0).1)]),(false,[tB true])],.val (.int .i64 ((aj x0 (45:Int)).length:Int)),.b true,.row (etS g1),.ret [(false,[tI ((aa g1).1)]),(false,[tB true])],.val (.int .i64 ((aj x0 (45:Int)).length:Int)),.b false] (AC h0<|AC h1<|AC h2<|AC h3<|AD (aS x0 (45:Int) h4 h5)<|AG etS h6<|AD (av g0 h7)<|ALn (aj x0 (45:Int)) etS<|AC h8<|AG etS h9<|AD (av g1 h10)<|ALn (aj x0 (45:Int)) etS<|AC h11<|AN))
      ·exact KB (DP Tryz.f87 [.b false,.b true,.b false,.ret [(false,[.s .own () 1 ((aj x0 (45:Int)).map etS)])],.row (etS g0),.ret [(false,[tI ((aa g0).1)]),(false,[tB true])],.val (.int .i64 ((aj x0 (45:Int)).length:Int)),.b true,.row (etS g1),.ret [(false,[tI ((aa g1).1)]),(false,[tB false])]] (AC h0<|AC h1<|AC h2<|AC h3<|AD (aS x0 (45:Int) h4 h5)<|AG etS h6<|AD (av g0 h7)<|ALn (aj x0 (45:Int)) etS<|AC h8<|AG etS h9<|AD (av g1 h10)<|AN))
     ·apply KE<;>intro h9
      ·apply KE<;>intro h10
       ·apply KE<;>intro h11
        ·exact KB (DP Tryz.f87 [.b false,.b true,.b false,.ret [(false,[.s .own () 1 ((aj x0 (45:Int)).map etS)])],.row (etS g0),.ret [(false,[tI ((aa g0).1)]),(false,[tB true])],.val (.int .i64 ((aj x0 (45:Int)).length:Int)),.b false,.val (.int .i64 ((aj x0 (45:Int)).length:Int)),.b true,.b true,.b true] (AC h0<|AC h1<|AC h2<|AC h3<|AD (aS x0 (45:Int) h4 h5)<|AG etS h6<|AD (av g0 h7)<|ALn (aj x0 (45:Int)) etS<|AC h8<|ALn (aj x0 (45:Int)) etS<|AC h9<|AC h10<|AC h11<|AN))
        ·exact KB (DP Tryz.f87 [.b false,.b true,.b false,.ret [(false,[.s .own () 1 ((aj x0 (45:Int)).map etS)])],.row (etS g0),.ret [(false,[tI ((aa g0).1)]),(false,[tB true])],.val (.int .i64 ((aj x0 (45:Int)).length:Int)),.b false,.val (.int .i64 ((aj x0 (45:Int)).length:Int)),.b true,.b true,.b false] (AC h0<|AC h1<|AC h2<|AC h3<|AD (aS x0 (45:Int) h4 h5)<|AG etS h6<|AD (av g0 h7)<|ALn (aj x0 (45:Int)) etS<|AC h8<|ALn (aj x0 (45:Int)) etS<|AC h9<|AC h10<|AC h11<|AN))
       ·exact KB (DP Tryz.f87 [.b false,.b true,.b false,.ret [(false,[.s .own () 1 ((aj x0 (45:Int)).map etS)])],.row (etS g0),.ret [(false,[tI ((aa g0).1)]),(false,[tB true])],.val (.int .i64 ((aj x0 (45:Int)).length:Int)),.b false,.val (.int .i64 ((aj x0 (45:Int)).length:Int)),.b true,.b false] (AC h0<|AC h1<|AC h2<|AC h3<|AD (aS x0 (45:Int) h4 h5)<|AG etS h6<|AD (av g0 h7)<|ALn (aj x0 (45:Int)) etS<|AC h8<|ALn (aj x0 (45:Int)) etS<|AC h9<|AC h10<|AN))
      ·exact KB (DP Tryz.f87 [.b false,.b true,.b false,.ret [(false,[.s .own () 1 ((aj x0 (45:Int)).map etS)])],.row (etS g0),.ret [(false,[tI ((aa g0).1)]),(false,[tB true])],.val (.int .i64 ((aj x0 (45:Int)).length:Int)),.b false,.val (.int .i64 ((aj x0 (45:Int)).length:Int)),.b false] (AC h0<|AC h1<|AC h2<|AC h3<|AD (aS x0 (45:Int) h4 h5)<|AG etS h6<|AD (av g0 h7)<|ALn (aj x0 (45:Int)) etS<|AC h8<|ALn (aj x0 (45:Int)) etS<|AC h9<|AN))
    ·apply KE<;>intro h8
     ·refine KF (fun g1 h9 => ?_)
      exact KB (DP Tryz.f87 [.b false,.b true,.b false,.ret [(false,[.s .own () 1 ((aj x0 (45:Int)).map etS)])],.row (etS g0),.ret [(false,[tI ((aa g0).1)]),(false,[tB false])],.val (.int .i64 ((aj x0 (45:Int)).length:Int)),.b true,.row (etS g1),.ret [(false,[tI ((aa g1).1)]),(false,[tB ((aa g1).2)])]] (AC h0<|AC h1<|AC h2<|AC h3<|AD (aS x0 (45:Int) h4 h5)<|AG etS h6<|AD (av g0 h7)<|ALn (aj x0 (45:Int)) etS<|AC h8<|AG etS h9<|AD (ls g1)<|AN))
     ·exact KB (DP Tryz.f87 [.b false,.b true,.b false,.ret [(false,[.s .own () 1 ((aj x0 (45:Int)).map etS)])],.row (etS g0),.ret [(false,[tI ((aa g0).1)]),(false,[tB false])],.val (.int .i64 ((aj x0 (45:Int)).length:Int)),.b false] (AC h0<|AC h1<|AC h2<|AC h3<|AD (aS x0 (45:Int) h4 h5)<|AG etS h6<|AD (av g0 h7)<|ALn (aj x0 (45:Int)) etS<|AC h8<|AN))
  ·refine KG (fun h2 => ?_)
   refine KG (fun h3 => ?_)
   refine KF (fun g0 h4 => ?_)
   apply KE<;>intro h5
   ·apply KE<;>intro h6
    ·refine KF (fun g1 h7 => ?_)
     apply KE<;>intro h8
     ·apply KE<;>intro h9
      ·apply KE<;>intro h10
       ·apply KE<;>intro h11
        ·exact KB (DP Tryz.f87 [.b false,.b false,.ret [(false,[.s .own () 1 ((aj x0 (45:Int)).map etS)])],.row (etS g0),.ret [(false,[tI ((aa g0).1)]),(false,[tB true])],.val (.int .i64 ((aj x0 (45:Int)).length:Int)),.b true,.row (etS g1),.ret [(false,[tI ((aa g1).1)]),(false,[tB true])],.val (.int .i64 ((aj x0 (45:Int)).length:Int)),.b true,.b true,.b true] (AC h0<|AC h1<|AD (aS x0 (45:Int) h2 h3)<|AG etS h4<|AD (av g0 h5)<|ALn (aj x0 (45:Int)) etS<|AC h6<|AG etS h7<|AD (av g1 h8)<|ALn (aj x0 (45:Int)) etS<|AC h9<|AC h10<|AC h11<|AN))
        ·exact KB (DP Tryz.f87 [.b false,.b false,.ret [(false,[.s .own () 1 ((aj x0 (45:Int)).map etS)])],.row (etS g0),.ret [(false,[tI ((aa g0).1)]),(false,[tB true])],.val (.int .i64 ((aj x0 (45:Int)).length:Int)),.b true,.row (etS g1),.ret [(false,[tI ((aa g1).1)]),(false,[tB true])],.val (.int .i64 ((aj x0 (45:Int)).length:Int)),.b true,.b true,.b false] (AC h0<|AC h1<|AD (aS x0 (45:Int) h2 h3)<|AG etS h4<|AD (av g0 h5)<|ALn (aj x0 (45:Int)) etS<|AC h6<|AG etS h7<|AD (av g1 h8)<|ALn (aj x0 (45:Int)) etS<|AC h9<|AC h10<|AC h11<|AN))
       ·exact KB (DP Tryz.f87 [.b false,.b false,.ret [(false,[.s .own () 1 ((aj x0 (45:Int)).map etS)])],.row (etS g0),.ret [(false,[tI ((aa g0).1)]),(false,[tB true])],.val (.int .i64 ((aj x0 (45:Int)).length:Int)),.b true,.row (etS g1),.ret [(false,[tI ((aa g1).1)]),(false,[tB true])],.val (.int .i64 ((aj x0 (45:Int)).length:Int)),.b true,.b false] (AC h0<|AC h1<|AD (aS x0 (45:Int) h2 h3)<|AG etS h4<|AD (av g0 h5)<|ALn (aj x0 (45:Int)) etS<|AC h6<|AG etS h7<|AD (av g1 h8)<|ALn (aj x0 (45:Int)) etS<|AC h9<|AC h10<|AN))
      ·exact KB (DP Tryz.f87 [.b false,.b false,.ret [(false,[.s .own () 1 ((aj x0 (45:Int)).map etS)])],.row (etS g0),.ret [(false,[tI ((aa g0).1)]),(false,[tB true])],.val (.int .i64 ((aj x0 (45:Int)).length:Int)),.b true,.row (etS g1),.ret [(false,[tI ((aa g1).1)]),(false,[tB true])],.val (.int .i64 ((aj x0 (45:Int)).length:Int)),.b false] (AC h0<|AC h1<|AD (aS x0 (45:Int) h2 h3)<|AG etS h4<|AD (av g0 h5)<|ALn (aj x0 (45:Int)) etS<|AC h6<|AG etS h7<|AD (av g1 h8)<|ALn (aj x0 (45:Int)) etS<|AC h9<|AN))
     ·exact KB (DP Tryz.f87 [.b false,.b false,.ret [(false,[.s .own () 1 ((aj x0 (45:Int)).map etS)])],.row (etS g0),.ret [(false,[tI ((aa g0).1)]),(false,[tB true])],.val (.int .i64 ((aj x0 (45:Int)).length:Int)),.b true,.row (etS g1),.ret [(false,[tI ((aa g1).1)]),(false,[tB false])]] (AC h0<|AC h1<|AD (aS x0 (45:Int) h2 h3)<|AG etS h4<|AD (av g0 h5)<|ALn (aj x0 (45:Int)) etS<|AC h6<|AG etS h7<|AD (av g1 h8)<|AN))
    ·apply KE<;>intro h7
     ·apply KE<;>intro h8
      ·apply KE<;>intro h9
       ·exact KB (DP Tryz.f87 [.b false,.b false,.ret [(false,[.s .own () 1 ((aj x0 (45:Int)).map etS)])],.row (etS g0),.ret [(false,[tI ((aa g0).1)]),(false,[tB true])],.val (.int .i64 ((aj x0 (45:Int)).length:Int)),.b false,.val (.int .i64 ((aj x0 (45:Int)).length:Int)),.b true,.b true,.b true] (AC h0<|AC h1<|AD (aS x0 (45:Int) h2 h3)<|AG etS h4<|AD (av g0 h5)<|ALn (aj x0 (45:Int)) etS<|AC h6<|ALn (aj x0 (45:Int)) etS<|AC h7<|AC h8<|AC h9<|AN))
       ·exact KB (DP Tryz.f87 [.b false,.b false,.ret [(false,[.s .own () 1 ((aj x0 (45:Int)).map etS)])],.row (etS g0),.ret [(false,[tI ((aa g0).1)]),(false,[tB true])],.val (.int .i64 ((aj x0 (45:Int)).length:Int)),.b false,.val (.int .i64 ((aj x0 (45:Int)).length:Int)),.b true,.b true,.b false] (AC h0<|AC h1<|AD (aS x0 (45:Int) h2 h3)<|AG etS h4<|AD (av g0 h5)<|ALn (aj x0 (45:Int)) etS<|AC h6<|ALn (aj x0 (45:Int)) etS<|AC h7<|AC h8<|AC h9<|AN))
      ·exact KB (DP Tryz.f87 [.b false,.b false,.ret [(false,[.s .own () 1 ((aj x0 (45:Int)).map etS)])],.row (etS g0),.ret [(false,[tI ((aa g0).1)]),(false,[tB true])],.val (.int .i64 ((aj x0 (45:Int)).length:Int)),.b false,.val (.int .i64 ((aj x0 (45:Int)).length:Int)),.b true,.b false] (AC h0<|AC h1<|AD (aS x0 (45:Int) h2 h3)<|AG etS h4<|AD (av g0 h5)<|ALn (aj x0 (45:Int)) etS<|AC h6<|ALn (aj x0 (45:Int)) etS<|AC h7<|AC h8<|AN))
     ·exact KB (DP Tryz.f87 [.b false,.b false,.ret [(false,[.s .own () 1 ((aj x0 (45:Int)).map etS)])],.row (etS g0),.ret [(false,[tI ((aa g0).1)]),(false,[tB true])],.val (.int .i64 ((aj x0 (45:Int)).length:Int)),.b false,.val (.int .i64 ((aj x0 (45:Int)).length:Int)),.b false] (AC h0<|AC h1<|AD (aS x0 (45:Int) h2 h3)<|AG etS h4<|AD (av g0 h5)<|ALn (aj x0 (45:Int)) etS<|AC h6<|ALn (aj x0 (45:Int)) etS<|AC h7<|AN))
   ·apply KE<;>intro h6
    ·refine KF (fun g1 h7 => ?_)
     exact KB (DP Tryz.f87 [.b false,.b false,.ret [(false,[.s .own () 1 ((aj x0 (45:Int)).map etS)])],.row (etS g0),.ret [(false,[tI ((aa g0).1)]),(false,[tB false])],.val (.int .i64 ((aj x0 (45:Int)).length:Int)),.b true,.row (etS g1),.ret [(false,[tI ((aa g1).1)]),(false,[tB ((aa g1).2)])]] (AC h0<|AC h1<|AD (aS x0 (45:Int) h2 h3)<|AG etS h4<|AD (av g0 h5)<|ALn (aj x0 (45:Int)) etS<|AC h6<|AG etS h7<|AD (ls g1)<|AN))
    ·exact KB (DP Tryz.f87 [.b false,.b false,.ret [(false,[.s .own () 1 ((aj x0 (45:Int)).map etS)])],.row (etS g0),.ret [(false,[tI ((aa g0).1)]),(false,[tB false])],.val (.int .i64 ((aj x0 (45:Int)).length:Int)),.b false] (AC h0<|AC h1<|AD (aS x0 (45:Int) h2 h3)<|AG etS h4<|AD (av g0 h5)<|ALn (aj x0 (45:Int)) etS<|AC h6<|AN))
noncomputable def kj (x0:ByteArray) (x1 x2:Int):Option (Int×Int×Int×Bool) :=
  cond (x0.toList==(⟨#[42]⟩:ByteArray).toList)
   (some (x1,x2,(1:Int),true))
   (cond ((bD x0 (⟨#[42,47]⟩:ByteArray)).2)
    (cond ((aa ((bD x0 (⟨#[42,47]⟩:ByteArray)).1)).2)
     (some (x1,x2,(aa ((bD x0 (⟨#[42,47]⟩:ByteArray)).1)).1,decide (((aa ((bD x0 (⟨#[42,47]⟩:ByteArray)).1)).1)≥(1:Int))))
     (some (x1,x2,(aa ((bD x0 (⟨#[42,47]⟩:ByteArray)).1)).1,false)))
    (if x0.size<4294967281 then cond ((aH x0 (⟨#[45]⟩:ByteArray)).2.2)
     (cond ((aa ((aH x0 (⟨#[45]⟩:ByteArray)).1)).2)
      (cond ((aa ((aH x0 (⟨#[45]⟩:ByteArray)).2.1)).2)
       (cond (decide (((aa ((aH x0 (⟨#[45]⟩:ByteArray)).1)).1)≥x1))
        (cond (decide (((aa ((aH x0 (⟨#[45]⟩:ByteArray)).1)).1)≤((aa ((aH x0 (⟨#[45]⟩:ByteArray)).2.1)).1)))
         (some ((aa ((aH x0 (⟨#[45]⟩:ByteArray)).1)).1,(aa ((aH x0 (⟨#[45]⟩:ByteArray)).2.1)).1,(1:Int),decide (((aa ((aH x0 (⟨#[45]⟩:ByteArray)).2.1)).1)≤x2)))
         (some ((aa ((aH x0 (⟨#[45]⟩:ByteArray)).1)).1,(aa ((aH x0 (⟨#[45]⟩:ByteArray)).2.1)).1,(1:Int),false)))
        (some ((aa ((aH x0 (⟨#[45]⟩:ByteArray)).1)).1,(aa ((aH x0 (⟨#[45]⟩:ByteArray)).2.1)).1,(1:Int),false)))
       (some ((aa ((aH x0 (⟨#[45]⟩:ByteArray)).1)).1,(aa ((aH x0 (⟨#[45]⟩:ByteArray)).2.1)).1,(1:Int),false)))
      (some ((aa ((aH x0 (⟨#[45]⟩:ByteArray)).1)).1,(aa ((aH x0 (⟨#[45]⟩:ByteArray)).2.1)).1,(1:Int),false)))
     (cond ((aa ((aH x0 (⟨#[45]⟩:ByteArray)).1)).2)
      (cond (decide (((aa ((aH x0 (⟨#[45]⟩:ByteArray)).1)).1)≥x1))
       (cond (decide (((aa ((aH x0 (⟨#[45]⟩:ByteArray)).1)).1)≤((aa ((aH x0 (⟨#[45]⟩:ByteArray)).1)).1)))
        (some ((aa ((aH x0 (⟨#[45]⟩:ByteArray)).1)).1,(aa ((aH x0 (⟨#[45]⟩:ByteArray)).1)).1,(1:Int),decide (((aa ((aH x0 (⟨#[45]⟩:ByteArray)).1)).1)≤x2)))
        (some ((aa ((aH x0 (⟨#[45]⟩:ByteArray)).1)).1,(aa ((aH x0 (⟨#[45]⟩:ByteArray)).1)).1,(1:Int),false)))
       (some ((aa ((aH x0 (⟨#[45]⟩:ByteArray)).1)).1,(aa ((aH x0 (⟨#[45]⟩:ByteArray)).1)).1,(1:Int),false)))
      (some ((aa ((aH x0 (⟨#[45]⟩:ByteArray)).1)).1,(aa ((aH x0 (⟨#[45]⟩:ByteArray)).1)).1,(1:Int),false))) else none))
theorem C6 (x0:ByteArray) (x1 x2:Int):Ans (kj x0 x1 x2) (fun r=>Does E 103 [.one (tS x0),.one (tI x1),.one (tI x2)] [(false,[tI r.1]),(false,[tI r.2.1]),(false,[tI r.2.2.1]),(false,[tB r.2.2.2])]):=by
 unfold kj
 apply KE<;>intro h0
 ·exact KB (DP Tryz.f103 [.b true] (AC h0<|AN))
 ·apply KE<;>intro h1
  ·apply KE<;>intro h2
   ·exact KB (DP Tryz.f103 [.b false,.ret [(false,[tS ((bD x0 (⟨#[42,47]⟩:ByteArray)).1)]),(false,[tB true])],.ret [(false,[tI ((aa ((bD x0 (⟨#[42,47]⟩:ByteArray)).1)).1)]),(false,[tB true])]] (AC h0<|AD (KH (rs':=[(false,[tS ((bD x0 (⟨#[42,47]⟩:ByteArray)).1)]),(false,[tB true])]) (bw x0 (⟨#[42,47]⟩:ByteArray)) (by rw [h1]))<|AD (bc ((bD x0 (⟨#[42,47]⟩:ByteArray)).1) h2)<|AN))
   ·exact KB (DP Tryz.f103 [.b false,.ret [(false,[tS ((bD x0 (⟨#[42,47]⟩:ByteArray)).1)]),(false,[tB true])],.ret [(false,[tI ((aa ((bD x0 (⟨#[42,47]⟩:ByteArray)).1)).1)]),(false,[tB false])]] (AC h0<|AD (KH (rs':=[(false,[tS ((bD x0 (⟨#[42,47]⟩:ByteArray)).1)]),(false,[tB true])]) (bw x0 (⟨#[42,47]⟩:ByteArray)) (by rw [h1]))<|AD (bc ((bD x0 (⟨#[42,47]⟩:ByteArray)).1) h2)<|AN))
  ·refine KG (fun h2 => ?_)
   apply KE<;>intro h3
   ·apply KE<;>intro h4
    ·apply KE<;>intro h5
     ·apply KE<;>intro h6
      ·apply KE<;>intro h7
       ·exact KB (DP Tryz.f103 [.b false,.ret [(false,[tS ((bD x0 (⟨#[42,47]⟩:ByteArray)).1)]),(false,[tB false])],.ret [(false,[tS ((aH x0 (⟨#[45]⟩:ByteArray)).1)]),(false,[tS ((aH x0 (⟨#[45]⟩:ByteArray)).2.1)]),(false,[tB true])],.ret [(false,[tI ((aa ((aH x0 (⟨#[45]⟩:ByteArray)).1)).1)]),(false,[tB true])],.ret [(false,[tI ((aa ((aH x0 (⟨#[45]⟩:ByteArray)).2.1)).1)]),(false,[tB true])],.b true,.b true] (AC h0<|AD (KH (rs':=[(false,[tS ((bD x0 (⟨#[42,47]⟩:ByteArray)).1)]),(false,[tB false])]) (bw x0 (⟨#[42,47]⟩:ByteArray)) (by rw [h1]))<|AD (KH (rs':=[(false,[tS ((aH x0 (⟨#[45]⟩:ByteArray)).1)]),(false,[tS ((aH x0 (⟨#[45]⟩:ByteArray)).2.1)]),(false,[tB true])]) (dE x0 (⟨#[45]⟩:ByteArray) h2) (by rw [h3]))<|AD (bc ((aH x0 (⟨#[45]⟩:ByteArray)).1) h4)<|AD (bc ((aH x0 (⟨#[45]⟩:ByteArray)).2.1) h5)<|AC h6<|AC h7<|AN))
       ·exact KB (DP Tryz.f103 [.b false,.ret [(false,[tS ((bD x0 (⟨#[42,47]⟩:ByteArray)).1)]),(false,[tB false])],.ret [(false,[tS ((aH x0 (⟨#[45]⟩:ByteArray)).1)]),(false,[tS ((aH x0 (⟨#[45]⟩:ByteArray)).2.1)]),(false,[tB true])],.ret [(false,[tI ((aa ((aH x0 (⟨#[45]⟩:ByteArray)).1)).1)]),(false,[tB true])],.ret [(false,[tI ((aa ((aH x0 (⟨#[45]⟩:ByteArray)).2.1)).1)]),(false,[tB true])],.b true,.b false] (AC h0<|AD (KH (rs':=[(false,[tS ((bD x0 (⟨#[42,47]⟩:ByteArray)).1)]),(false,[tB false])]) (bw x0 (⟨#[42,47]⟩:ByteArray)) (by rw [h1]))<|AD (KH (rs':=[(false,[tS ((aH x0 (⟨#[45]⟩:ByteArray)).1)]),(false,[tS ((aH x0 (⟨#[45]⟩:ByteArray)).2.1)]),(false,[tB true])]) (dE x0 (⟨#[45]⟩:ByteArray) h2) (by rw [h3]))<|AD (bc ((aH x0 (⟨#[45]⟩:ByteArray)).1) h4)<|AD (bc ((aH x0 (⟨#[45]⟩:ByteArray)).2.1) h5)<|AC h6<|AC h7<|AN))
      ·exact KB (DP Tryz.f103 [.b false,.ret [(false,[tS ((bD x0 (⟨#[42,47]⟩:ByteArray)).1)]),(false,[tB false])],.ret [(false,[tS ((aH x0 (⟨#[45]⟩:ByteArray)).1)]),(false,[tS ((aH x0 (⟨#[45]⟩:ByteArray)).2.1)]),(false,[tB true])],.ret [(false,[tI ((aa ((aH x0 (⟨#[45]⟩:ByteArray)).1)).1)]),(false,[tB true])],.ret [(false,[tI ((aa ((aH x0 (⟨#[45]⟩:ByteArray)).2.1)).1)]),(false,[tB true])],.b false] (AC h0<|AD (KH (rs':=[(false,[tS ((bD x0 (⟨#[42,47]⟩:ByteArray)).1)]),(false,[tB false])]) (bw x0 (⟨#[42,47]⟩:ByteArray)) (by rw [h1]))<|AD (KH (rs':=[(false,[tS ((aH x0 (⟨#[45]⟩:ByteArray)).1)]),(false,[tS ((aH x0 (⟨#[45]⟩:ByteArray)).2.1)]),(false,[tB true])]) (dE x0 (⟨#[45]⟩:ByteArray) h2) (by rw [h3]))<|AD (bc ((aH x0 (⟨#[45]⟩:ByteArray)).1) h4)<|AD (bc ((aH x0 (⟨#[45]⟩:ByteArray)).2.1) h5)<|AC h6<|AN))
     ·exact KB (DP Tryz.f103 [.b false,.ret [(false,[tS ((bD x0 (⟨#[42,47]⟩:ByteArray)).1)]),(false,[tB false])],.ret [(false,[tS ((aH x0 (⟨#[45]⟩:ByteArray)).1)]),(false,[tS ((aH x0 (⟨#[45]⟩:ByteArray)).2.1)]),(false,[tB true])],.ret [(false,[tI ((aa ((aH x0 (⟨#[45]⟩:ByteArray)).1)).1)]),(false,[tB true])],.ret [(false,[tI ((aa ((aH x0 (⟨#[45]⟩:ByteArray)).2.1)).1)]),(false,[tB false])]] (AC h0<|AD (KH (rs':=[(false,[tS ((bD x0 (⟨#[42,47]⟩:ByteArray)).1)]),(false,[tB false])]) (bw x0 (⟨#[42,47]⟩:ByteArray)) (by rw [h1]))<|AD (KH (rs':=[(false,[tS ((aH x0 (⟨#[45]⟩:ByteArray)).1)]),(false,[tS ((aH x0 (⟨#[45]⟩:ByteArray)).2.1)]),(false,[tB true])]) (dE x0 (⟨#[45]⟩:ByteArray) h2) (by rw [h3]))<|AD (bc ((aH x0 (⟨#[45]⟩:ByteArray)).1) h4)<|AD (bc ((aH x0 (⟨#[45]⟩:ByteArray)).2.1) h5)<|AN))
    ·exact KB (DP Tryz.f103 [.b false,.ret [(false,[tS ((bD x0 (⟨#[42,47]⟩:ByteArray)).1)]),(false,[tB false])],.ret [(false,[tS ((aH x0 (⟨#[45]⟩:ByteArray)).1)]),(false,[tS ((aH x0 (⟨#[45]⟩:ByteArray)).2.1)]),(false,[tB true])],.ret [(false,[tI ((aa ((aH x0 (⟨#[45]⟩:ByteArray)).1)).1)]),(false,[tB false])],.ret [(false,[tI ((aa ((aH x0 (⟨#[45]⟩:ByteArray)).2.1)).1)]),(false,[tB ((aa ((aH x0 (⟨#[45]⟩:ByteArray)).2.1)).2)])]] (AC h0<|AD (KH (rs':=[(false,[tS ((bD x0 (⟨#[42,47]⟩:ByteArray)).1)]),(false,[tB false])]) (bw x0 (⟨#[42,47]⟩:ByteArray)) (by rw [h1]))<|AD (KH (rs':=[(false,[tS ((aH x0 (⟨#[45]⟩:ByteArray)).1)]),(false,[tS ((aH x0 (⟨#[45]⟩:ByteArray)).2.1)]),(false,[tB true])]) (dE x0 (⟨#[45]⟩:ByteArray) h2) (by rw [h3]))<|AD (bc ((aH x0 (⟨#[45]⟩:ByteArray)).1) h4)<|AD (oW ((aH x0 (⟨#[45]⟩:ByteArray)).2.1))<|AN))
   ·apply KE<;>intro h4
    ·apply KE<;>intro h5
     ·apply KE<;>intro h6
      ·exact KB (DP Tryz.f103 [.b false,.ret [(false,[tS ((bD x0 (⟨#[42,47]⟩:ByteArray)).1)]),(false,[tB false])],.ret [(false,[tS ((aH x0 (⟨#[45]⟩:ByteArray)).1)]),(false,[tS ((aH x0 (⟨#[45]⟩:ByteArray)).2.1)]),(false,[tB false])],.ret [(false,[tI ((aa ((aH x0 (⟨#[45]⟩:ByteArray)).1)).1)]),(false,[tB true])],.b true,.b true] (AC h0<|AD (KH (rs':=[(false,[tS ((bD x0 (⟨#[42,47]⟩:ByteArray)).1)]),(false,[tB false])]) (bw x0 (⟨#[42,47]⟩:ByteArray)) (by rw [h1]))<|AD (KH (rs':=[(false,[tS ((aH x0 (⟨#[45]⟩:ByteArray)).1)]),(false,[tS ((aH x0 (⟨#[45]⟩:ByteArray)).2.1)]),(false,[tB false])]) (dE x0 (⟨#[45]⟩:ByteArray) h2) (by rw [h3]))<|AD (bc ((aH x0 (⟨#[45]⟩:ByteArray)).1) h4)<|AC h5<|AC h6<|AN))
      ·exact KB (DP Tryz.f103 [.b false,.ret [(false,[tS ((bD x0 (⟨#[42,47]⟩:ByteArray)).1)]),(false,[tB false])],.ret [(false,[tS ((aH x0 (⟨#[45]⟩:ByteArray)).1)]),(false,[tS ((aH x0 (⟨#[45]⟩:ByteArray)).2.1)]),(false,[tB false])],.ret [(false,[tI ((aa ((aH x0 (⟨#[45]⟩:ByteArray)).1)).1)]),(false,[tB true])],.b true,.b false] (AC h0<|AD (KH (rs':=[(false,[tS ((bD x0 (⟨#[42,47]⟩:ByteArray)).1)]),(false,[tB false])]) (bw x0 (⟨#[42,47]⟩:ByteArray)) (by rw [h1]))<|AD (KH (rs':=[(false,[tS ((aH x0 (⟨#[45]⟩:ByteArray)).1)]),(false,[tS ((aH x0 (⟨#[45]⟩:ByteArray)).2.1)]),(false,[tB false])]) (dE x0 (⟨#[45]⟩:ByteArray) h2) (by rw [h3]))<|AD (bc ((aH x0 (⟨#[45]⟩:ByteArray)).1) h4)<|AC h5<|AC h6<|AN))
     ·exact KB (DP Tryz.f103 [.b false,.ret [(false,[tS ((bD x0 (⟨#[42,47]⟩:ByteArray)).1)]),(false,[tB false])],.ret [(false,[tS ((aH x0 (⟨#[45]⟩:ByteArray)).1)]),(false,[tS ((aH x0 (⟨#[45]⟩:ByteArray)).2.1)]),(false,[tB false])],.ret [(false,[tI ((aa ((aH x0 (⟨#[45]⟩:ByteArray)).1)).1)]),(false,[tB true])],.b false] (AC h0<|AD (KH (rs':=[(false,[tS ((bD x0 (⟨#[42,47]⟩:ByteArray)).1)]),(false,[tB false])]) (bw x0 (⟨#[42,47]⟩:ByteArray)) (by rw [h1]))<|AD (KH (rs':=[(false,[tS ((aH x0 (⟨#[45]⟩:ByteArray)).1)]),(false,[tS ((aH x0 (⟨#[45]⟩:ByteArray)).2.1)]),(false,[tB false])]) (dE x0 (⟨#[45]⟩:ByteArray) h2) (by rw [h3]))<|AD (bc ((aH x0 (⟨#[45]⟩:ByteArray)).1) h4)<|AC h5<|AN))
    ·exact KB (DP Tryz.f103 [.b false,.ret [(false,[tS ((bD x0 (⟨#[42,47]⟩:ByteArray)).1)]),(false,[tB false])],.ret [(false,[tS ((aH x0 (⟨#[45]⟩:ByteArray)).1)]),(false,[tS ((aH x0 (⟨#[45]⟩:ByteArray)).2.1)]),(false,[tB false])],.ret [(false,[tI ((aa ((aH x0 (⟨#[45]⟩:ByteArray)).1)).1)]),(false,[tB false])]] (AC h0<|AD (KH (rs':=[(false,[tS ((bD x0 (⟨#[42,47]⟩:ByteArray)).1)]),(false,[tB false])]) (bw x0 (⟨#[42,47]⟩:ByteArray)) (by rw [h1]))<|AD (KH (rs':=[(false,[tS ((aH x0 (⟨#[45]⟩:ByteArray)).1)]),(false,[tS ((aH x0 (⟨#[45]⟩:ByteArray)).2.1)]),(false,[tB false])]) (dE x0 (⟨#[45]⟩:ByteArray) h2) (by rw [h3]))<|AD (bc ((aH x0 (⟨#[45]⟩:ByteArray)).1) h4)<|AN))
def sH (r:Int×Int×Int×Bool) (o:Option (Int×Int×Int)):Prop :=
 match o with | some (a,b,c)=>r=(a,b,c,true) | none=>r.2.2.2=false
noncomputable def qy (ps:List (List UInt8)) (lo hi:Int):Option (Int×Int×Int) :=
 match ps with
 | [p]=>if (aa (ofTx p)).2=true∧lo≤(aa (ofTx p)).1∧(aa (ofTx p)).1≤hi then some ((aa (ofTx p)).1,(aa (ofTx p)).1,1) else none
 | [p,q]=>if (aa (ofTx p)).2=true∧(aa (ofTx q)).2=true∧lo≤(aa (ofTx p)).1∧(aa (ofTx p)).1≤(aa (ofTx q)).1∧(aa (ofTx q)).1≤hi then some ((aa (ofTx p)).1,(aa (ofTx q)).1,1) else none
 | _=>none
theorem vA (p:List UInt8) (lo hi:Int):qy [p] lo hi=if (aa (ofTx p)).2=true∧lo≤(aa (ofTx p)).1∧(aa (ofTx p)).1≤hi then some ((aa (ofTx p)).1,(aa (ofTx p)).1,1) else none:=rfl
theorem BK (p q:List UInt8) (lo hi:Int):qy [p,q] lo hi=if (aa (ofTx p)).2=true∧(aa (ofTx q)).2=true∧lo≤(aa (ofTx p)).1∧(aa (ofTx p)).1≤(aa (ofTx q)).1∧(aa (ofTx q)).1≤hi then some ((aa (ofTx p)).1,(aa (ofTx q)).1,1) else none:=rfl
theorem BL (p q r:List UInt8) (l:List (List UInt8)) (lo hi:Int):qy (p::q::r::l) lo hi=none:=rfl
noncomputable def rx (s:ByteArray) (lo hi:Int):Option (Int×Int×Int) :=
 if tx s=[42] then some (lo,hi,1)
 else if [42,47].isPrefixOf (tx s)=true then
  (if (aa (ofTx ((tx s).drop 2))).2=true∧1≤(aa (ofTx ((tx s).drop 2))).1 then some (lo,hi,(aa (ofTx ((tx s).drop 2))).1) else none)
 else qy (bG 45 (tx s)) lo hi
noncomputable def cD (s:ByteArray) (lo hi:Int):Int×Int×Int×Bool:=(jr s lo hi).getD (0,0,0,false)
noncomputable def cC (s:ByteArray) (lo hi:Int):Int×Int×Int×Bool:=(kj s lo hi).getD (0,0,0,false)
theorem BM {o:Option (Int×Int×Int×Bool)} {p:Option (Int×Int×Int)} {d:Int×Int×Int×Bool} (h:∃ r,o=some r∧sH r p):o=some (o.getD d)∧sH (o.getD d) p:=by
 obtain ⟨r,rfl,h⟩:=h
 exact ⟨rfl,h⟩
theorem GL (L:List ByteArray) (ps:List (List UInt8)) (hL:L=ps.map ofTx) (lo hi:Int) (hne:∃ x xs,ps=x::xs) :
  ∃ r,((aq L (0:Int)).bind fun g0=>cond ((aa g0).2)
     (cond ((L.length:Int)==(2:Int))
      ((aq L (1:Int)).bind fun g1=>cond ((aa g1).2)
       (cond (decide ((L.length:Int)≤(2:Int)))
        (cond (decide (lo≤((aa g0).1)))
         (cond (decide (((aa g0).1)≤((aa g1).1)))
          (some ((aa g0).1,(aa g1).1,(1:Int),decide (((aa g1).1)≤hi)))
          (some ((aa g0).1,(aa g1).1,(1:Int),false)))
         (some ((aa g0).1,(aa g1).1,(1:Int),false)))
        (some ((aa g0).1,(aa g1).1,(1:Int),false)))
       (some ((aa g0).1,(aa g1).1,(1:Int),false)))
      (cond (decide ((L.length:Int)≤(2:Int)))
       (cond (decide (lo≤((aa g0).1)))
        (cond (decide (((aa g0).1)≤((aa g0).1)))
         (some ((aa g0).1,(aa g0).1,(1:Int),decide (((aa g0).1)≤hi)))
         (some ((aa g0).1,(aa g0).1,(1:Int),false)))
        (some ((aa g0).1,(aa g0).1,(1:Int),false)))
       (some ((aa g0).1,(aa g0).1,(1:Int),false))))
     (cond ((L.length:Int)==(2:Int))
      ((aq L (1:Int)).bind fun g1=>some ((aa g0).1,(aa g1).1,(1:Int),false))
      (some ((aa g0).1,(aa g0).1,(1:Int),false))))=some r∧sH r (qy ps lo hi):=by
 subst hL
 match ps,hne with
 | [p],_ =>
  have g0:aq ([p].map ofTx) 0=some (ofTx p):=rfl
  have e1:((([p].map ofTx).length:Int)==2)=false:=rfl
  have e2:decide ((([p].map ofTx).length:Int)≤2)=true:=rfl
  rw [g0,e1,e2,vA,Option.bind_some]
  simp only [cond_true,cond_false]
  generalize aa (ofTx p)=a
  obtain ⟨a,b⟩:=a
  cases b with
  | false=>exact ⟨_,rfl,by rw [if_neg (by simp)];exact rfl⟩
  | true =>
   rw [cond_true]
   by_cases h1:lo≤a
   ·rw [decide_eq_true h1,cond_true,decide_eq_true (Int.le_refl _),cond_true]
    refine ⟨_,rfl,?_⟩
    by_cases h2:a≤hi
    ·rw [decide_eq_true h2,if_pos ⟨rfl,h1,h2⟩];exact rfl
    ·rw [decide_eq_false h2,if_neg (fun h=>h2 h.2.2)];exact rfl
   ·rw [decide_eq_false h1]
    exact ⟨_,rfl,by rw [if_neg (fun h=>h1 h.2.1)];exact rfl⟩
 | [p,q],_ =>
  have g0:aq ([p,q].map ofTx) 0=some (ofTx p):=rfl
  have g1:aq ([p,q].map ofTx) 1=some (ofTx q):=rfl
  have e1:((([p,q].map ofTx).length:Int)==2)=true:=rfl
  have e2:decide ((([p,q].map ofTx).length:Int)≤2)=true:=rfl
  rw [g0,g1,e1,e2,BK,Option.bind_some,Option.bind_some]
  simp only [cond_true,cond_false]
  generalize aa (ofTx p)=a
  generalize aa (ofTx q)=c
  obtain ⟨a,b⟩:=a
  obtain ⟨c,d⟩:=c
  cases b with
  | false=>exact ⟨_,rfl,by rw [if_neg (by simp)];exact rfl⟩
  | true =>
   cases d with
   | false=>exact ⟨_,rfl,by rw [if_neg (by simp)];exact rfl⟩
   | true =>
    rw [cond_true,cond_true]
    by_cases h1:lo≤a
    ·rw [decide_eq_true h1,cond_true]
     by_cases h3:a≤c
     ·rw [decide_eq_true h3,cond_true]
      refine ⟨_,rfl,?_⟩
      by_cases h2:c≤hi
      ·rw [decide_eq_true h2,if_pos ⟨rfl,rfl,h1,h3,h2⟩];exact rfl
      ·rw [decide_eq_false h2,if_neg (fun h=>h2 h.2.2.2.2)];exact rfl
     ·rw [decide_eq_false h3]
      exact ⟨_,rfl,by rw [if_neg (fun h=>h3 h.2.2.2.1)];exact rfl⟩
    ·rw [decide_eq_false h1]
     exact ⟨_,rfl,by rw [if_neg (fun h=>h1 h.2.2.1)];exact rfl⟩
 | p::q::t::ps,_ =>
  have e1:((((p::q::t::ps).map ofTx).length:Int)==2)=false:=by rw [beq_eq_false_iff_ne];simp;omega
  have e2:decide ((((p::q::t::ps).map ofTx).length:Int)≤2)=false:=decide_eq_false (by simp;omega)
  rw [e1,e2,BL]
  have g0:aq ((p::q::t::ps).map ofTx) 0=some (ofTx p):=rfl
  rw [g0,Option.bind_some]
  cases (aa (ofTx p)).2 with
  | false=>exact ⟨_,rfl,rfl⟩
  | true=>exact ⟨_,rfl,rfl⟩
theorem yO (s:ByteArray) (lo hi:Int) (hs:s.size≤2000000):jr s lo hi=some (cD s lo hi)∧sH (cD s lo hi) (rx s lo hi):=by
 refine BM ?_
 unfold jr rx
 have e42:tx (⟨#[42]⟩:ByteArray)=[42]:=rfl
 have e4247:tx (⟨#[42,47]⟩:ByteArray)=[42,47]:=rfl
 rw [iy,e42]
 by_cases h:tx s=[42]
 ·rw [decide_eq_true h,if_pos h];exact ⟨_,rfl,rfl⟩
 ·have hp:(s.size≤2000000)=True:=eq_true hs
  have hc:((0:Int)≤45∧(45:Int)<256)=True:=eq_true (by decide)
  have hL:aj s 45=(bG 45 (tx s)).map ofTx:=rfl
  have tl:=GL (aj s 45) (bG 45 (tx s)) hL lo hi (fS _ _)
  rw [decide_eq_false h,if_neg h,cond_false]
  simp only [hp,hc,if_true]
  have hz:=cM s
  by_cases h2:2<s.size
  ·rw [decide_eq_true (by omega),cond_true,if_pos (by omega),iy,e4247,w7]
   have hpre:[42,47].isPrefixOf (tx s)=decide (seg (tx s) (0:Int).toNat (2:Int).toNat=[42,47]):=by
    obtain ⟨a,b,l,e⟩:∃ a b l,tx s=a::b::l:=by
     cases q:tx s with
     | nil=>rw [q] at hz;have:s.size=0:=hz;omega
     | cons a l =>
      cases l with
      | nil=>rw [q] at hz;have:s.size=1:=hz;omega
      | cons b l=>exact ⟨a,b,l,rfl⟩
    have:seg (a::b::l) (0:Int).toNat (2:Int).toNat=[a,b]:=by simp [seg]
    have sw:∀ x y:UInt8,(x==y)=decide (y=x):=fun x y=>by
     by_cases h:y=x
     ·subst h;simp
     ·rw [decide_eq_false h,beq_eq_false_iff_ne];exact fun e=>h e.symm
    rw [e,this]
    simp [List.isPrefixOf,sw]
   rw [hpre]
   have hx:s.extract (2:Int).toNat (s.size:Int).toNat=ofTx ((tx s).drop 2):=by
    rw [kg]
    unfold seg
    rw [List.take_of_length_le (by omega)];rfl
   by_cases q:seg (tx s) (0:Int).toNat (2:Int).toNat=[42,47]
   ·rw [decide_eq_true q,cond_true,if_pos rfl,if_pos (by omega),hx]
    generalize aa (ofTx ((tx s).drop 2))=a
    obtain ⟨a,b⟩:=a
    cases b with
    | false=>exact ⟨_,rfl,by rw [if_neg (by simp)];exact rfl⟩
    | true =>
     refine ⟨_,rfl,?_⟩
     by_cases z:1≤a
     ·rw [decide_eq_true (show a≥1 from z),if_pos ⟨rfl,z⟩];exact rfl
     ·rw [decide_eq_false (show ¬ a≥1 from z),if_neg (fun h=>z h.2)];exact rfl
   ·rw [decide_eq_false q,cond_false,if_neg (by simp)]
    exact tl
  ·rw [decide_eq_false (by omega),cond_false]
   by_cases q:[42,47].isPrefixOf (tx s)=true
   ·rw [if_pos q]
    have e:tx s=[42,47]:=by
     cases w:tx s with
     | nil=>rw [w] at q;simp [List.isPrefixOf] at q
     | cons a l =>
      cases l with
      | nil=>rw [w] at q;simp [List.isPrefixOf] at q
      | cons b l =>
       cases l with
       | nil=>rw [w] at q;simp [List.isPrefixOf] at q;rw [← q.1, ← q.2]
       | cons c l=>rw [w] at hz;simp at hz;omega
    have hb:(aa (ofTx ((tx s).drop 2)))=(0,false):=by
     rw [e]
     show aa (ofTx [])=_
     unfold aa
     rw [if_neg (by decide)]
     have:¬ tx (bf 0)=tx (ofTx []):=by
      unfold bf Lib.itoa
      rw [if_neg (by omega),Lib.decDigits,dif_pos (by simp)]
      simp [tx,ofTx]
     show (if (1000000000:Int)<0 then _ else if _ then _ else _)=_
     rw [if_neg (by decide),if_neg this]
    rw [hb,if_neg (by simp)]
    obtain ⟨r,h1,h2⟩:=tl
    refine ⟨r,h1,?_⟩
    rw [e] at h2
    have hcut:bG 45 ([42,47]:List UInt8)=[[42,47]]:=qd (by decide)
    rw [hcut,vA] at h2
    have hb2:aa (ofTx [42,47])=(0,false):=uT (b:=42) (by rw [qG];simp) (by decide)
    simp only [hb2] at h2
    rw [if_neg (by simp)] at h2
    exact h2
   ·rw [if_neg q]
    exact tl
theorem yN (s:ByteArray) (lo hi:Int) (hs:s.size≤2000000):kj s lo hi=some (cC s lo hi)∧sH (cC s lo hi) (rx s lo hi):=by
 refine BM ?_
 unfold kj rx
 have e42:tx (⟨#[42]⟩:ByteArray)=[42]:=rfl
 rw [iy,e42]
 by_cases h:tx s=[42]
 ·rw [decide_eq_true h,if_pos h];exact ⟨_,rfl,rfl⟩
 ·rw [decide_eq_false h,if_neg h,cond_false]
  have hp2:(bD s (⟨#[42,47]⟩:ByteArray)).2=[42,47].isPrefixOf (tx s):=rfl
  rw [hp2]
  by_cases q:[42,47].isPrefixOf (tx s)=true
  ·have hp1:(bD s (⟨#[42,47]⟩:ByteArray)).1=ofTx ((tx s).drop 2):=by
    show ofTx (Lib.trimPrefix (tx s) [42,47])=_
    unfold Lib.trimPrefix Lib.hasPrefix
    rw [if_pos q];rfl
   rw [q,cond_true,if_pos rfl,hp1]
   generalize aa (ofTx ((tx s).drop 2))=a
   obtain ⟨a,b⟩:=a
   cases b with
   | false=>exact ⟨_,rfl,by rw [if_neg (by simp)];exact rfl⟩
   | true =>
    refine ⟨_,rfl,?_⟩
    by_cases z:1≤a
    ·rw [decide_eq_true (show a≥1 from z),if_pos ⟨rfl,z⟩];exact rfl
    ·rw [decide_eq_false (show ¬ a≥1 from z),if_neg (fun h=>z h.2)];exact rfl
  ·rw [if_neg q]
   rw [Bool.not_eq_true] at q
   rw [q,cond_false,if_pos (by omega)]
   rcases AB (tx s) 45 with ⟨h1,h2,h3⟩ | ⟨a,b,h1,h2,h3,h4⟩
   ·have c1:aH s (⟨#[45]⟩:ByteArray)=(s,ofTx [],false):=by
     show (ofTx (Lib.cut (tx s) [45]).1,ofTx (Lib.cut (tx s) [45]).2.1,(Lib.cut (tx s) [45]).2.2)=_
     rw [h2];rfl
    rw [c1,h3,vA]
    simp only [cond_false]
    rw [qw]
    generalize aa s=a
    obtain ⟨a,b⟩:=a
    cases b with
    | false=>exact ⟨_,rfl,by rw [if_neg (by simp)];exact rfl⟩
    | true =>
     rw [cond_true]
     by_cases h1:lo≤a
     ·rw [decide_eq_true (show a≥lo from h1),cond_true,decide_eq_true (Int.le_refl _),cond_true]
      refine ⟨_,rfl,?_⟩
      by_cases h2:a≤hi
      ·rw [decide_eq_true h2,if_pos ⟨rfl,h1,h2⟩];exact rfl
      ·rw [decide_eq_false h2,if_neg (fun h=>h2 h.2.2)];exact rfl
     ·rw [decide_eq_false (show ¬ a≥lo from h1)]
      exact ⟨_,rfl,by rw [if_neg (fun h=>h1 h.2.1)];exact rfl⟩
   ·have c1:aH s (⟨#[45]⟩:ByteArray)=(ofTx a,ofTx b,true):=by
     show (ofTx (Lib.cut (tx s) [45]).1,ofTx (Lib.cut (tx s) [45]).2.1,(Lib.cut (tx s) [45]).2.2)=_
     rw [h3]
    rw [c1,h4]
    simp only [cond_true]
    by_cases hb:(45:UInt8)∈b
    ·have hr:aa (ofTx b)=(0,false):=uT (b:=45) (by rw [qG];exact hb) (by decide)
     have hm:∃ x y z,bG 45 b=x::y::z:=by
      rcases AB b 45 with ⟨g,_⟩ | ⟨c,d,_,_,_,g⟩
      ·exact absurd hb g
      ·obtain ⟨y,z,e⟩:=fS 45 d
       exact ⟨c,y,z,by rw [g,e]⟩
     obtain ⟨x,y,z,e⟩:=hm
     rw [e,hr,BL]
     cases (aa (ofTx a)).2 with
     | false=>exact ⟨_,rfl,rfl⟩
     | true=>exact ⟨_,rfl,rfl⟩
    ·rw [qd hb,BK]
     generalize aa (ofTx a)=a
     generalize aa (ofTx b)=c
     obtain ⟨a,b⟩:=a
     obtain ⟨c,d⟩:=c
     cases b with
     | false=>exact ⟨_,rfl,by rw [if_neg (by simp)];exact rfl⟩
     | true =>
      cases d with
      | false=>exact ⟨_,rfl,by rw [if_neg (by simp)];exact rfl⟩
      | true =>
       rw [cond_true,cond_true]
       by_cases h1:lo≤a
       ·rw [decide_eq_true (show a≥lo from h1),cond_true]
        by_cases h3:a≤c
        ·rw [decide_eq_true h3,cond_true]
         refine ⟨_,rfl,?_⟩
         by_cases h2:c≤hi
         ·rw [decide_eq_true h2,if_pos ⟨rfl,rfl,h1,h3,h2⟩];exact rfl
         ·rw [decide_eq_false h2,if_neg (fun h=>h2 h.2.2.2.2)];exact rfl
        ·rw [decide_eq_false h3]
         exact ⟨_,rfl,by rw [if_neg (fun h=>h3 h.2.2.2.1)];exact rfl⟩
       ·rw [decide_eq_false (show ¬ a≥lo from h1)]
        exact ⟨_,rfl,by rw [if_neg (fun h=>h1 h.2.2.1)];exact rfl⟩
theorem HY {s:ByteArray} {lo hi a b c:Int} (hlo:lo≤hi) (h:rx s lo hi=some (a,b,c)):lo≤a∧a≤b∧b≤hi∧1≤c∧c≤1000000000:=by
 unfold rx at h
 split at h
 ·cases h;exact ⟨Int.le_refl _,hlo,Int.le_refl _,Int.le_refl _,by decide⟩
 ·split at h
  ·split at h
   ·rename_i z
    have:=Fl (ofTx ((tx s).drop 2))
    cases h
    exact ⟨Int.le_refl _,hlo,Int.le_refl _,z.2,this.2⟩
   ·cases h
  ·unfold qy at h
   split at h
   ·split at h
    ·rename_i z;cases h;exact ⟨z.2.1,Int.le_refl _,z.2.2,Int.le_refl _,by decide⟩
    ·cases h
   ·split at h
    ·rename_i z;cases h;exact ⟨z.2.2.1,z.2.2.2.1,z.2.2.2.2,Int.le_refl _,by decide⟩
    ·cases h
   ·cases h
theorem An (x0:ByteArray) (x1:Int) (x2:Int) (h:x0.size≤2000000):Does E 87 [.one (tS x0),.one (tI x1),.one (tI x2)] [(false,[tI ((cD x0 x1 x2).1)]),(false,[tI ((cD x0 x1 x2).2.1)]),(false,[tI ((cD x0 x1 x2).2.2.1)]),(false,[tB ((cD x0 x1 x2).2.2.2)])]:=by
 exact B8 x0 x1 x2 _ (yO x0 x1 x2 h).1
theorem pZ (x0:ByteArray) (x1:Int) (x2:Int) (h:x0.size≤2000000) {bb:Bool} (hbb:(cD x0 x1 x2).2.2.2=bb):Does E 87 [.one (tS x0),.one (tI x1),.one (tI x2)] [(false,[tI ((cD x0 x1 x2).1)]),(false,[tI ((cD x0 x1 x2).2.1)]),(false,[tI ((cD x0 x1 x2).2.2.1)]),(false,[tB bb])]:=by rw [← hbb];exact An x0 x1 x2 h
theorem Cz (x0:ByteArray) (x1:Int) (x2:Int) (h:x0.size≤2000000):Does E 103 [.one (tS x0),.one (tI x1),.one (tI x2)] [(false,[tI ((cC x0 x1 x2).1)]),(false,[tI ((cC x0 x1 x2).2.1)]),(false,[tI ((cC x0 x1 x2).2.2.1)]),(false,[tB ((cC x0 x1 x2).2.2.2)])]:=by
 exact C6 x0 x1 x2 _ (yN x0 x1 x2 h).1
theorem rM (x0:ByteArray) (x1:Int) (x2:Int) (h:x0.size≤2000000) {bb:Bool} (hbb:(cC x0 x1 x2).2.2.2=bb):Does E 103 [.one (tS x0),.one (tI x1),.one (tI x2)] [(false,[tI ((cC x0 x1 x2).1)]),(false,[tI ((cC x0 x1 x2).2.1)]),(false,[tI ((cC x0 x1 x2).2.2.1)]),(false,[tB bb])]:=by rw [← hbb];exact Cz x0 x1 x2 h
noncomputable def jF (x0:Int):Option (Int×Int) :=
  cond (x0==(0:Int))
   (some ((0:Int),(59:Int)))
   (cond (x0==(1:Int))
    (some ((0:Int),(23:Int)))
    (cond (x0==(2:Int))
     (some ((1:Int),(31:Int)))
     (cond (x0==(3:Int))
      (some ((1:Int),(12:Int)))
      (some ((0:Int),(6:Int))))))
theorem E1 (x0:Int):Ans (jF x0) (fun r=>Does E 102 [.one (tI x0)] [(false,[tI r.1]),(false,[tI r.2])]):=by
 unfold jF
 apply KE<;>intro h0
 ·exact KB (DP Tryz.f102 [.b true] (AC h0<|AN))
 ·apply KE<;>intro h1
  ·exact KB (DP Tryz.f102 [.b false,.b true] (AC h0<|AC h1<|AN))
  ·apply KE<;>intro h2
   ·exact KB (DP Tryz.f102 [.b false,.b false,.b true] (AC h0<|AC h1<|AC h2<|AN))
   ·apply KE<;>intro h3
    ·exact KB (DP Tryz.f102 [.b false,.b false,.b false,.b true] (AC h0<|AC h1<|AC h2<|AC h3<|AN))
    ·exact KB (DP Tryz.f102 [.b false,.b false,.b false,.b false] (AC h0<|AC h1<|AC h2<|AC h3<|AN))
noncomputable def aE (i:Int):Int×Int:=(jF i).getD (0,0)
theorem Et (i:Int):jF i=some (aE i):=by
 refine Tot.getD ?_ _
 unfold jF
 repeat' (first | exact Tot.some _ | apply Tot.cond)
theorem FN (i:Int):0≤(aE i).1∧(aE i).1≤(aE i).2∧(aE i).2≤59:=by
 unfold aE jF
 cases i==0<;>cases i==1<;>cases i==2<;>cases i==3<;>exact ⟨by decide,by decide,by decide⟩
theorem bS (x0:Int):Does E 102 [.one (tI x0)] [(false,[tI ((aE x0).1)]),(false,[tI ((aE x0).2)])]:=by
 exact E1 x0 _ (Et x0)
inductive sj where
 | x4 (v16:List Int)
def fW (v2:Int) (v8:List Bool) (v16:List Int) (v17:Int):US:=stL 70 [(2,.one (tI v2)),(8,.one (.s .own () 1 (v8.map etB))),(16,.one (.s .own () 1 (v16.map etI))),(17,.one (tI v17))]
def l8 (zv16:List Int):US:=stL 70 [(16,.one (.s .own () 1 (zv16.map etI)))]
abbrev ny:US→Exit→US→Prop:=Round E 67 (az Tryz.f67 2)
def zB (v2:Int) (v8:List Bool) (v16:List Int) (v17:Int):sj→Prop
 | .x4 zv16=>Loops E 67 (az Tryz.f67 2) (fW v2 v8 v16 v17) (.exit 4) (l8 zv16)
noncomputable def en (v2:Int) (v8:List Bool):Nat→(List Int)→Int→Option sj
 | 0,_,_=>none
 | n+1,v16,v17=>cond (decide (v17≤v2))
  ((aq v8 v17).bind fun g0=>cond (g0)
   (if (v16.length+([v17]).length)*8≤140737488355328∧v16.length+([v17]).length≤4611686018427387904 then en v2 v8 n (v16++([v17])) (inc v17) else none)
   (en v2 v8 n v16 (inc v17)))
  (some (.x4 v16))
theorem zx (v2:Int) (v8:List Bool) (n:Nat):∀ (v16:List Int) (v17:Int),Ans (en v2 v8 n v16 v17) (zB v2 v8 v16 v17):=by
 induction n with
 | zero=>intros;exact Ans.none
 | succ n ih =>
  intro v16 v17
  unfold en
  apply KE<;>intro h0
  ·refine KF (fun g0 h1 => ?_)
   apply KE<;>intro h2
   ·refine KG (fun h3 => ?_)
    have r:ny (fW v2 v8 v16 v17) .normal (fW v2 v8 (v16++([v17])) (inc v17)):=RP [.b true,.row ([tB true]),.rows ((v16++([v17])).map etI)] (AC h0<|AC (p:=0≤v17∧v17<((v8.map etB).length:Int)) (we h1)<|AC (p:=(v8.map etB)[0+v17.toNat]?=some ([tB true])) ((ql h1).trans (congrArg some (show [tB g0]=[tB true] by rw [h2])))<|AAp etI (fun _=>rfl) h3<|AN);exact (ih (v16++([v17])) (inc v17)).mono fun y hy=>by cases y<;>exact KC r hy
   ·have r:ny (fW v2 v8 v16 v17) .normal (fW v2 v8 v16 (inc v17)):=RP [.b true,.row ([tB false])] (AC h0<|AC (p:=0≤v17∧v17<((v8.map etB).length:Int)) (we h1)<|AC (p:=(v8.map etB)[0+v17.toNat]?=some ([tB false])) ((ql h1).trans (congrArg some (show [tB g0]=[tB false] by rw [h2])))<|AN);exact (ih v16 (inc v17)).mono fun y hy=>by cases y<;>exact KC r hy
  ·exact KB (KD (show ny (fW v2 v8 v16 v17) (.exit 4) (l8 v16) from RP [.b false] (AC h0<|AN)) (by intro h;cases h))
inductive sg where
 | x2 (v8:List Bool)
def kB (v1 v2:Int) (v8:List Bool) (v9:List ByteArray) (v10 v12 v13 v15:Int):US:=stL 70 [(1,.one (tI v1)),(2,.one (tI v2)),(8,.one (.s .own () 1 (v8.map etB))),(9,.one (.s .own () 1 (v9.map etS))),(10,.one (tI v10)),(12,.one (tI v12)),(13,.one (tI v13)),(15,.one (tI v15))]
def l7 (v1 v2:Int) (v9:List ByteArray) (v10:Int) (zv8:List Bool):US:=stL 70 [(1,.one (tI v1)),(2,.one (tI v2)),(8,.one (.s .own () 1 (zv8.map etB))),(9,.one (.s .own () 1 (v9.map etS))),(10,.one (tI v10))]
abbrev se:US→Exit→US→Prop:=Round E 67 (az Tryz.f67 1)
def zA (v1 v2:Int) (v8:List Bool) (v9:List ByteArray) (v10 v12 v13 v15:Int):sg→Prop
 | .x2 zv8=>Loops E 67 (az Tryz.f67 1) (kB v1 v2 v8 v9 v10 v12 v13 v15) (.exit 2) (l7 v1 v2 v9 v10 zv8)
noncomputable def fX (v12 v13:Int):Nat→(List Bool)→Int→Option sg
 | 0,_,_=>none
 | n+1,v8,v15=>cond (decide (v15≤v12))
  ((aq v8 v15).bind fun g0=>fX v12 v13 n (v8.set v15.toNat true) (IntKind.wrap .i64 (v15+v13)))
  (some (.x2 v8))
theorem zw (v1 v2:Int) (v9:List ByteArray) (v10 v12 v13:Int) (n:Nat):∀ (v8:List Bool) (v15:Int),Ans (fX v12 v13 n v8 v15) (zA v1 v2 v8 v9 v10 v12 v13 v15):=by
 induction n with
 | zero=>intros;exact Ans.none
 | succ n ih =>
  intro v8 v15
  unfold fX
  apply KE<;>intro h0
  ·refine KF (fun g0 h1 => ?_)
   have r:se (kB v1 v2 v8 v9 v10 v12 v13 v15) .normal (kB v1 v2 (v8.set v15.toNat true) v9 v10 v12 v13 (IntKind.wrap .i64 (v15+v13))):=RP [.b true,.row (etB g0),.rows ((v8.set v15.toNat true).map etB)] (AC h0<|AG etB h1<|AC (p:=(v8.map etB).set (0+v15.toNat) (aA (etB g0) 0 [tB true])=(v8.set v15.toNat true).map etB) (gr (by rfl))<|AN);exact (ih (v8.set v15.toNat true) (IntKind.wrap .i64 (v15+v13))).mono fun y hy=>by cases y<;>exact KC r hy
  ·exact KB (KD (show se (kB v1 v2 v8 v9 v10 v12 v13 v15) (.exit 2) (l7 v1 v2 v9 v10 v8) from RP [.b false] (AC h0<|AN)) (by intro h;cases h))
inductive sf where
 | ret (v6:List Int) (v7:Bool)
 | x0 (v8:List Bool)
def fV (v1 v2:Int) (v8:List Bool) (v9:List ByteArray) (v10:Int):US:=stL 70 [(1,.one (tI v1)),(2,.one (tI v2)),(8,.one (.s .own () 1 (v8.map etB))),(9,.one (.s .own () 1 (v9.map etS))),(10,.one (tI v10))]
def kS (zv6:List Int) (zv7:Bool):US:=stL 70 [(6,.one (.s .own () 1 (zv6.map etI))),(7,.one (tB zv7))]
def l6 (v1 v2:Int) (zv8:List Bool):US:=stL 70 [(1,.one (tI v1)),(2,.one (tI v2)),(8,.one (.s .own () 1 (zv8.map etB)))]
abbrev nw:US→Exit→US→Prop:=Round E 67 (az Tryz.f67 0)
def zy (v1 v2:Int) (v8:List Bool) (v9:List ByteArray) (v10:Int):sf→Prop
 | .ret zv6 zv7=>Loops E 67 (az Tryz.f67 0) (fV v1 v2 v8 v9 v10) .ret (kS zv6 zv7)
 | .x0 zv8=>Loops E 67 (az Tryz.f67 0) (fV v1 v2 v8 v9 v10) (.exit 0) (l6 v1 v2 zv8)
noncomputable def dG (v1 v2:Int):List ByteArray→Nat→(List Bool)→Option sf
 | [],i,v8=>some (.x0 v8)
 | hd::rest,i,v8=>if hd.size≤2000000 then cond ((cD hd v1 v2).2.2.2)
  ((fX ((cD hd v1 v2).2.1) ((cD hd v1 v2).2.2.1) 9223372036854775808 v8 ((cD hd v1 v2).1)).bind fun y=>match y with
   | .x2 w0_8=>(dG v1 v2 rest (i+1) w0_8))
  (some (.ret ([]) false)) else none
theorem zu (v1 v2:Int) (v9:List ByteArray) (rest:List ByteArray):∀ (i:Nat) (v8:List Bool),(v9).drop i=rest→v9.length≤9223372036854775807→Ans (dG v1 v2 rest i v8) (zy v1 v2 v8 v9 (i:Int)):=by
 induction rest with
 | nil =>
  intro i v8 hE hl
  have hb:=br hE
  unfold dG
  exact KB (KD (show nw (fV v1 v2 v8 v9 (i:Int)) (.exit 0) (l6 v1 v2 v8) from RP [.val (.int .i64 (v9.length:Int)),.b false] (ALn v9 etS<|AC hb<|AN)) (by intro h;cases h))
 | cons hd rest ih =>
  intro i v8 hE hl
  have hb:=bd hE
  have hw:=be hE hl
  have hE2:=aJ hE
  have hg:=ba hE
  unfold dG
  refine KG (fun h2 => ?_)
  apply KE<;>intro h3
  ·refine KF (fun y hy => ?_)
   replace hy:=zw v1 v2 v9 (i:Int) ((cD hd v1 v2).2.1) ((cD hd v1 v2).2.2.1) 9223372036854775808 v8 ((cD hd v1 v2).1) y hy
   cases y with
   | x2 w0_8 =>
    have h4:=hy
    exact (ih (i+1) w0_8 hE2 hl).mono fun y hy=>by have r:nw (fV v1 v2 v8 v9 (i:Int)) .normal (fV v1 v2 w0_8 v9 (inc (i:Int))):=RP [.val (.int .i64 (v9.length:Int)),.b true,.row (etS hd),.ret [(false,[tI ((cD hd v1 v2).1)]),(false,[tI ((cD hd v1 v2).2.1)]),(false,[tI ((cD hd v1 v2).2.2.1)]),(false,[tB true])],.lp (.exit 2) (l7 v1 v2 v9 (i:Int) w0_8)] (ALn v9 etS<|AC hb<|AG etS hg<|AD (pZ hd v1 v2 h2 h3)<|AL h4<|AN);rw [hw] at r;cases y<;>exact KC r hy
  ·exact KB (KD (show nw (fV v1 v2 v8 v9 (i:Int)) .ret (kS ([]) false) from RP [.val (.int .i64 (v9.length:Int)),.b true,.row (etS hd),.ret [(false,[tI ((cD hd v1 v2).1)]),(false,[tI ((cD hd v1 v2).2.1)]),(false,[tI ((cD hd v1 v2).2.2.1)]),(false,[tB false])]] (ALn v9 etS<|AC hb<|AG etS hg<|AD (pZ hd v1 v2 h2 h3)<|AN)) (by intro h;cases h))
noncomputable def fM (x0:ByteArray) (x1 x2:Int):Option ((List Int)×Bool) :=
  if 0≤(inc x2)∧(inc x2)≤(inc x2)∧((1:Nat):Int)*(inc x2)≤281474976710656∧(inc x2)≤4611686018427387904 then if x0.size≤2000000 then if 0≤(44:Int)∧(44:Int)<256 then if (aj x0 (44:Int)).length≤9223372036854775807 then (dG x1 x2 (aj x0 (44:Int)) 0 (List.replicate (inc x2).toNat false)).bind fun y=>match y with
   | .ret w0_6 w0_7=>(some (w0_6,w0_7))
   | .x0 w0_8=>((en x2 w0_8 9223372036854775808 ([]) x1).bind fun y=>match y with
    | .x4 w1_16=>(some (w1_16,true))) else none else none else none else none
theorem B5 (x0:ByteArray) (x1 x2:Int):Ans (fM x0 x1 x2) (fun r=>Does E 67 [.one (tS x0),.one (tI x1),.one (tI x2)] [(false,[.s .own () 1 (r.1.map etI)]),(false,[tB r.2])]):=by
 unfold fM
 refine KG (fun h0 => ?_)
 refine KG (fun h1 => ?_)
 refine KG (fun h2 => ?_)
 refine KG (fun hl1 => ?_)
 refine KF (fun y hy => ?_)
 replace hy:=zu x1 x2 (aj x0 (44:Int)) (aj x0 (44:Int)) 0 (List.replicate (inc x2).toNat false) rfl hl1 y hy
 cases y with
 | ret w0_6 w0_7 =>
  have h3:=hy
  exact KB (DP Tryz.f67 [.rows ((List.replicate (inc x2).toNat false).map etB),.ret [(false,[.s .own () 1 ((aj x0 (44:Int)).map etS)])],.lp .ret (kS w0_6 w0_7)] (AC h0<|AC (p:=List.replicate (inc x2).toNat [tB false]=(List.replicate (inc x2).toNat false).map etB) (oG rfl)<|AD (aS x0 (44:Int) h1 h2)<|AL h3<|AN))
 | x0 w0_8 =>
  have h3:=hy
  refine KF (fun y hy => ?_)
  replace hy:=zx x2 w0_8 9223372036854775808 ([]) x1 y hy
  cases y with
  | x4 w1_16 =>
   have h4:=hy
   exact KB (DP Tryz.f67 [.rows ((List.replicate (inc x2).toNat false).map etB),.ret [(false,[.s .own () 1 ((aj x0 (44:Int)).map etS)])],.lp (.exit 0) (l6 x1 x2 w0_8),.lp (.exit 4) (l8 w1_16)] (AC h0<|AC (p:=List.replicate (inc x2).toNat [tB false]=(List.replicate (inc x2).toNat false).map etB) (oG rfl)<|AD (aS x0 (44:Int) h1 h2)<|AL h3<|AL h4<|AN))
inductive pm where
 | x2 (v8:List Int)
def iY (v6 v7:Int) (v8:List Int) (v12 v13 v15:Int) (v22:List ByteArray) (v23 v24:Int):US:=stL 56 [(6,.one (tI v6)),(7,.one (tI v7)),(8,.one (.s .own () 1 (v8.map etI))),(12,.one (tI v12)),(13,.one (tI v13)),(15,.one (tI v15)),(22,.one (.s .own () 1 (v22.map etS))),(23,.one (tI v23)),(24,.one (tI v24))]
def j6 (v6 v7:Int) (v22:List ByteArray) (v23 v24:Int) (zv8:List Int):US:=stL 56 [(6,.one (tI v6)),(7,.one (tI v7)),(8,.one (.s .own () 1 (zv8.map etI))),(22,.one (.s .own () 1 (v22.map etS))),(23,.one (tI v23)),(24,.one (tI v24))]
abbrev pj:US→Exit→US→Prop:=Round E 92 (az Tryz.f92 1)
def wx (v6 v7:Int) (v8:List Int) (v12 v13 v15:Int) (v22:List ByteArray) (v23 v24:Int):pm→Prop
 | .x2 zv8=>Loops E 92 (az Tryz.f92 1) (iY v6 v7 v8 v12 v13 v15 v22 v23 v24) (.exit 2) (j6 v6 v7 v22 v23 v24 zv8)
noncomputable def e8 (v12 v13:Int):Nat→(List Int)→Int→Option pm
 | 0,_,_=>none
 | n+1,v8,v15=>cond (decide (v15≤v12))
  (if (v8.length+([v15]).length)*8≤140737488355328∧v8.length+([v15]).length≤4611686018427387904 then e8 v12 v13 n (v8++([v15])) (IntKind.wrap .i64 (v15+v13)) else none)
  (some (.x2 v8))
theorem wv (v6 v7 v12 v13:Int) (v22:List ByteArray) (v23 v24:Int) (n:Nat):∀ (v8:List Int) (v15:Int),Ans (e8 v12 v13 n v8 v15) (wx v6 v7 v8 v12 v13 v15 v22 v23 v24):=by
 induction n with
 | zero=>intros;exact Ans.none
 | succ n ih =>
  intro v8 v15
  unfold e8
  apply KE<;>intro h0
  ·refine KG (fun h1 => ?_)
   have r:pj (iY v6 v7 v8 v12 v13 v15 v22 v23 v24) .normal (iY v6 v7 (v8++([v15])) v12 v13 (IntKind.wrap .i64 (v15+v13)) v22 v23 v24):=RP [.b true,.rows ((v8++([v15])).map etI)] (AC h0<|AAp etI (fun _=>rfl) h1<|AN);exact (ih (v8++([v15])) (IntKind.wrap .i64 (v15+v13))).mono fun y hy=>by cases y<;>exact KC r hy
  ·exact KB (KD (show pj (iY v6 v7 v8 v12 v13 v15 v22 v23 v24) (.exit 2) (j6 v6 v7 v22 v23 v24 v8) from RP [.b false] (AC h0<|AN)) (by intro h;cases h))
inductive pk where
 | ret (v4:List Int) (v5:Bool)
 | x0 (v8:List Int)
def e7 (v6 v7:Int) (v8:List Int) (v22:List ByteArray) (v23 v24:Int):US:=stL 56 [(6,.one (tI v6)),(7,.one (tI v7)),(8,.one (.s .own () 1 (v8.map etI))),(22,.one (.s .own () 1 (v22.map etS))),(23,.one (tI v23)),(24,.one (tI v24))]
def jj (zv4:List Int) (zv5:Bool):US:=stL 56 [(4,.one (.s .own () 1 (zv4.map etI))),(5,.one (tB zv5))]
def jZ (zv8:List Int):US:=stL 56 [(8,.one (.s .own () 1 (zv8.map etI)))]
abbrev lL:US→Exit→US→Prop:=Round E 92 (az Tryz.f92 0)
def ww (v6 v7:Int) (v8:List Int) (v22:List ByteArray) (v23 v24:Int):pk→Prop
 | .ret zv4 zv5=>Loops E 92 (az Tryz.f92 0) (e7 v6 v7 v8 v22 v23 v24) .ret (jj zv4 zv5)
 | .x0 zv8=>Loops E 92 (az Tryz.f92 0) (e7 v6 v7 v8 v22 v23 v24) (.exit 0) (jZ zv8)
noncomputable def cR (v6 v7:Int):List ByteArray→Nat→(List Int)→Option pk
 | [],i,v8=>some (.x0 v8)
 | hd::rest,i,v8=>if hd.size≤2000000 then cond ((cC hd v6 v7).2.2.2)
  ((e8 ((cC hd v6 v7).2.1) ((cC hd v6 v7).2.2.1) 9223372036854775808 v8 ((cC hd v6 v7).1)).bind fun y=>match y with
   | .x2 w0_8=>(cR v6 v7 rest (i+1) w0_8))
  (some (.ret ([]) false)) else none
theorem wu (v6 v7:Int) (v22:List ByteArray) (rest:List ByteArray):∀ (i:Nat) (v8:List Int),(v22).drop i=rest→v22.length≤9223372036854775807→Ans (cR v6 v7 rest i v8) (ww v6 v7 v8 v22 (v22.length:Int) (i:Int)):=by
 induction rest with
 | nil =>
  intro i v8 hE hl
  have hb:=br hE
  unfold cR
  exact KB (KD (show lL (e7 v6 v7 v8 v22 (v22.length:Int) (i:Int)) (.exit 0) (jZ v8) from RP [.b false] (AC hb<|AN)) (by intro h;cases h))
 | cons hd rest ih =>
  intro i v8 hE hl
  have hb:=bd hE
  have hw:=be hE hl
  have hE2:=aJ hE
  have hg:=ba hE
  unfold cR
  refine KG (fun h2 => ?_)
  apply KE<;>intro h3
  ·refine KF (fun y hy => ?_)
   replace hy:=wv v6 v7 ((cC hd v6 v7).2.1) ((cC hd v6 v7).2.2.1) v22 (v22.length:Int) (i:Int) 9223372036854775808 v8 ((cC hd v6 v7).1) y hy
   cases y with
   | x2 w0_8 =>
    have h4:=hy
    exact (ih (i+1) w0_8 hE2 hl).mono fun y hy=>by have r:lL (e7 v6 v7 v8 v22 (v22.length:Int) (i:Int)) .normal (e7 v6 v7 w0_8 v22 (v22.length:Int) (inc (i:Int))):=RP [.b true,.row (etS hd),.ret [(false,[tI ((cC hd v6 v7).1)]),(false,[tI ((cC hd v6 v7).2.1)]),(false,[tI ((cC hd v6 v7).2.2.1)]),(false,[tB true])],.lp (.exit 2) (j6 v6 v7 v22 (v22.length:Int) (i:Int) w0_8)] (AC hb<|AG etS hg<|AD (rM hd v6 v7 h2 h3)<|AL h4<|AN);rw [hw] at r;cases y<;>exact KC r hy
  ·exact KB (KD (show lL (e7 v6 v7 v8 v22 (v22.length:Int) (i:Int)) .ret (jj ([]) false) from RP [.b true,.row (etS hd),.ret [(false,[tI ((cC hd v6 v7).1)]),(false,[tI ((cC hd v6 v7).2.1)]),(false,[tI ((cC hd v6 v7).2.2.1)]),(false,[tB false])]] (AC hb<|AG etS hg<|AD (rM hd v6 v7 h2 h3)<|AN)) (by intro h;cases h))
noncomputable def fz (x0:ByteArray) (x1:Int):Option ((List Int)×Bool) :=
  if x0.size<4294967281 then if 1≤(⟨#[44]⟩:ByteArray).size then if (dm x0 (⟨#[44]⟩:ByteArray)).length≤9223372036854775807 then (cR ((aE x1).1) ((aE x1).2) (dm x0 (⟨#[44]⟩:ByteArray)) 0 ([])).bind fun y=>match y with
   | .ret w0_4 w0_5=>(some (w0_4,w0_5))
   | .x0 w0_8=>(if w0_8.length<4611686018427387904 then if (dg w0_8).length≤9223372036854775807 then some (id (gz (dg w0_8)),true) else none else none) else none else none else none
theorem xA (x0:ByteArray) (x1:Int):Ans (fz x0 x1) (fun r=>Does E 92 [.one (tS x0),.one (tI x1)] [(false,[.s .own () 1 (r.1.map etI)]),(false,[tB r.2])]):=by
 unfold fz
 refine KG (fun h0 => ?_)
 refine KG (fun h1 => ?_)
 refine KG (fun hl1 => ?_)
 refine KF (fun y hy => ?_)
 replace hy:=wu ((aE x1).1) ((aE x1).2) (dm x0 (⟨#[44]⟩:ByteArray)) (dm x0 (⟨#[44]⟩:ByteArray)) 0 ([]) rfl hl1 y hy
 cases y with
 | ret w0_4 w0_5 =>
  have h2:=hy
  exact KB (DP Tryz.f92 [.ret [(false,[tI ((aE x1).1)]),(false,[tI ((aE x1).2)])],.ret [(false,[.s .own () 1 ((dm x0 (⟨#[44]⟩:ByteArray)).map etS)])],.val (.int .i64 ((dm x0 (⟨#[44]⟩:ByteArray)).length:Int)),.lp .ret (jj w0_4 w0_5)] (AD (bS x1)<|AD (iU x0 (⟨#[44]⟩:ByteArray) h0 h1)<|ALn (dm x0 (⟨#[44]⟩:ByteArray)) etS<|AL h2<|AN))
 | x0 w0_8 =>
  have h2:=hy
  refine KG (fun h3 => ?_)
  refine KG (fun h4 => ?_)
  exact KB (DP Tryz.f92 [.ret [(false,[tI ((aE x1).1)]),(false,[tI ((aE x1).2)])],.ret [(false,[.s .own () 1 ((dm x0 (⟨#[44]⟩:ByteArray)).map etS)])],.val (.int .i64 ((dm x0 (⟨#[44]⟩:ByteArray)).length:Int)),.lp (.exit 0) (jZ w0_8),.ret [(false,[.s .own () 1 ((dg w0_8).map etI)])],.ret [(false,[.any]),(false,[.s .own () 1 ((gz (dg w0_8)).map etI)])],.ret [(false,[.any]),(false,[.s .own () 1 ((id (gz (dg w0_8))).map etI)])]] (AD (bS x1)<|AD (iU x0 (⟨#[44]⟩:ByteArray) h0 h1)<|ALn (dm x0 (⟨#[44]⟩:ByteArray)) etS<|AL h2<|AC (p:=(w0_8.map etI).length=(w0_8.map etI).length) rfl<|AV (ψ:=fun k=>E.C k 98 [.one (.s .own () 1 (w0_8.map etI))]=some [(false,[.s .own () 1 ((dg w0_8).map etI)])]) (nE w0_8 h3)<|AV (ψ:=fun k=>E.C k 105 [.one (.s .own () 1 ((dg w0_8).map etI))]=some [(false,[.any]),(false,[.s .own () 1 ((gz (dg w0_8)).map etI)])]) (qL (dg w0_8) h4)<|AV (ψ:=fun k=>E.C k 104 [.one (.s .own () 1 ((gz (dg w0_8)).map etI))]=some [(false,[.any]),(false,[.s .own () 1 ((id (gz (dg w0_8))).map etI)])]) (uo (gz (dg w0_8)))<|AN))
def Marks (lo hi:Int) (has:List Bool) (l:List Int):Prop :=
 (has.length:Int)=hi+1∧(∀ x∈l,lo≤x∧x≤hi)∧∀ j:Nat,(j:Int)≤hi→(has[j]?=some true↔(j:Int)∈l)
theorem Marks.add {lo hi:Int} {has:List Bool} {l:List Int} (h:Marks lo hi has l) (h0:0≤lo) {x:Int} (hx:lo≤x∧x≤hi):Marks lo hi (has.set x.toNat true) (l++[x]):=by
 obtain ⟨h1,h2,h3⟩:=h
 refine ⟨by rw [List.length_set];exact h1,fun y hy => ?_,fun j hj => ?_⟩
 ·rcases List.mem_append.1 hy with hy | hy
  ·exact h2 y hy
  ·rw [List.mem_singleton] at hy;subst hy;exact hx
 ·rw [List.mem_append,List.mem_singleton,List.getElem?_set]
  by_cases e:x.toNat=j
  ·rw [if_pos e,if_pos (by omega)]
   exact ⟨fun _ => .inr (by omega),fun _=>rfl⟩
  ·rw [if_neg e,h3 j hj]
   exact ⟨.inl,fun h=>h.resolve_right (by omega)⟩
theorem BX (lo hi b st:Int) (h0:0≤lo) (hhi:hi≤59) (hb:b≤hi) (h1:1≤st) (h2:st≤1000000000):∀ (k n:Nat) (a:Int) (has:List Bool) (l:List Int),(b-a+1).toNat≤k→k<n→lo≤a→a≤1000000100→Marks lo hi has l→l.length+k≤1000000000 →
  ∃ has' l',fX b st n has a=some (.x2 has')∧e8 b st n l a=some (.x2 l')∧Marks lo hi has' l'∧l'.length≤l.length+k∧(a≤b∨l≠[]→l'≠[])
 | k,0,a,has,l,_,hn,_,_,_,_=>by omega
 | k,n+1,a,has,l,hk,hn,ha,ha',hM,hl=>by
  unfold fX e8
  by_cases q:a≤b
  ·obtain ⟨g,hg,_⟩:=eY (l:=has) (k:=a) (by have:=hM.1;omega)
   obtain ⟨k,rfl⟩:∃ j,k=j+1:=⟨k-1,by omega⟩
   have e:IntKind.wrap .i64 (a+st)=a+st:=di _ (by omega) (by omega)
   obtain ⟨has',l',e1,e2,e3,e4,e5⟩:=BX lo hi b st h0 hhi hb h1 h2 k n (a+st) (has.set a.toNat true) (l++[a]) (by omega) (by omega) (by omega) (by omega) (hM.add h0 (by omega)) (by simp;omega)
   refine ⟨has',l',?_,?_,e3,by simp at e4;omega,fun _=>e5 (.inr (by simp))⟩
   ·rw [decide_eq_true q,cond_true,hg,Option.bind_some,e];exact e1
   ·rw [decide_eq_true q,cond_true,if_pos (by simp;omega),e];exact e2
  ·rw [decide_eq_false q]
   exact ⟨has,l,rfl,rfl,hM,by omega,fun h=>h.resolve_left q⟩
theorem uE (lo hi:Int) (h0:0≤lo) (hlh:lo≤hi) (hhi:hi≤59):∀ (ps:List ByteArray) (i:Nat) (has:List Bool) (l:List Int),(∀ p∈ps,p.size≤2000000)→Marks lo hi has l→l.length+ps.length*60≤1000000000 →
  (dG lo hi ps i has=some (.ret [] false)∧cR lo hi ps i l=some (.ret [] false)) ∨
  ∃ has' l',dG lo hi ps i has=some (.x0 has')∧cR lo hi ps i l=some (.x0 l')∧Marks lo hi has' l'∧l'.length≤l.length+ps.length*60∧(ps≠[]∨l≠[]→l'≠[])
 | [],i,has,l,_,hM,_ => .inr ⟨has,l,rfl,rfl,hM,by simp,fun h=>h.resolve_left fun h=>h rfl⟩
 | p::ps,i,has,l,hp,hM,hl=>by
  have hq:=hp p (by simp)
  obtain ⟨-,r1⟩:=yO p lo hi hq
  obtain ⟨-,r2⟩:=yN p lo hi hq
  unfold dG cR
  simp only [if_pos hq]
  cases e:rx p lo hi with
  | none =>
   rw [e] at r1 r2
   have r1:(cD p lo hi).2.2.2=false:=r1
   have r2:(cC p lo hi).2.2.2=false:=r2
   rw [r1,r2]
   exact .inl ⟨rfl,rfl⟩
  | some x =>
   obtain ⟨a,b,st⟩:=x
   rw [e] at r1 r2
   have r1:cD p lo hi=(a,b,st,true):=r1
   have r2:cC p lo hi=(a,b,st,true):=r2
   obtain ⟨a1,a2,a3,a4,a5⟩:=HY hlh e
   simp only [List.length_cons] at hl
   obtain ⟨has',l',e1,e2,e3,e4,e5⟩:=BX lo hi b st h0 hhi a3 a4 a5 60 9223372036854775808 a has l (by omega) (by omega) a1 (by omega) hM (by omega)
   rw [r1,r2]
   simp only [cond_true,e1,e2,Option.bind_some]
   rcases uE lo hi h0 hlh hhi ps (i+1) has' l' (fun p hp'=>hp p (by simp [hp'])) e3 (by omega) with h | ⟨has2,l2,g1,g2,g3,g4,g5⟩
   ·exact .inl h
   ·exact .inr ⟨has2,l2,g1,g2,g3,by rw [List.length_cons];omega,fun _=>g5 (.inr (e5 (.inl a2)))⟩
theorem Fj (hi:Int) (has:List Bool) (hh:(has.length:Int)=hi+1) (hhi:hi≤59):∀ (k n:Nat) (x:Int) (v:List Int),(hi-x+1).toNat≤k→k<n→0≤x→x≤100→v.length+k≤1000→v.Pairwise (· < ·)→(∀ y∈v,y<x) →
  ∃ w,en hi has n v x=some (.x4 w)∧w.Pairwise (· < ·)∧∀ y,y∈w↔y∈v∨(x≤y∧y≤hi∧has[y.toNat]?=some true)
 | k,0,x,v,_,hn,_,_,_,_,_=>by omega
 | k,n+1,x,v,hk,hn,hx,hx',hl,hp,hm=>by
  unfold en
  by_cases q:x≤hi
  ·obtain ⟨g,hg,_⟩:=eY (l:=has) (k:=x) (by omega)
   have hg':=(m7 hg).2
   obtain ⟨k,rfl⟩:∃ j,k=j+1:=⟨k-1,by omega⟩
   have e:inc x=x+1:=m8 _ (by omega) (by omega)
   rw [decide_eq_true q,cond_true,hg,Option.bind_some]
   cases g with
   | true =>
    obtain ⟨w,w1,w2,w3⟩:=Fj hi has hh hhi k n (x+1) (v++[x]) (by omega) (by omega) (by omega) (by omega) (by simp;omega)
     (by rw [List.pairwise_append];exact ⟨hp,by simp,fun a ha b hb=>by rw [List.mem_singleton] at hb;subst hb;exact hm a ha⟩)
     (fun y hy=>by rcases List.mem_append.1 hy with h | h;have:=hm y h;omega;rw [List.mem_singleton] at h;omega)
    refine ⟨w,by rw [cond_true,if_pos (by simp;omega),e];exact w1,w2,fun y => ?_⟩
    rw [w3,List.mem_append,List.mem_singleton]
    constructor
    ·rintro ((h | rfl) | h)
     ·exact .inl h
     ·exact .inr ⟨Int.le_refl _,q,hg'⟩
     ·exact .inr ⟨by omega,h.2⟩
    ·rintro (h | h)
     ·exact .inl (.inl h)
     ·by_cases z:y=x
      ·exact .inl (.inr z)
      ·exact .inr ⟨by omega,h.2⟩
   | false =>
    obtain ⟨w,w1,w2,w3⟩:=Fj hi has hh hhi k n (x+1) v (by omega) (by omega) (by omega) (by omega) (by omega) hp (fun y hy=>by have:=hm y hy;omega)
    refine ⟨w,by rw [cond_false,e];exact w1,w2,fun y => ?_⟩
    rw [w3]
    constructor
    ·rintro (h | h)
     ·exact .inl h
     ·exact .inr ⟨by omega,h.2⟩
    ·rintro (h | h)
     ·exact .inl h
     ·by_cases z:y=x
      ·subst z;rw [hg'] at h;exact absurd h.2.2 (by simp)
      ·exact .inr ⟨by omega,h.2⟩
  ·rw [decide_eq_false q]
   exact ⟨v,rfl,hp,fun y=>⟨.inl,fun h=>h.resolve_right fun h=>by omega⟩⟩
theorem rA (lo hi:Int):∀ (l:List Int) (a:Int),l.Pairwise (· < ·)→(∀ x∈l,a≤x∧x≤hi)→a≤hi+1→(l.length:Int)≤hi+1-a
 | [],a,_,_,h=>by simp;omega
 | x::l,a,hp,hm,h=>by
  rw [List.pairwise_cons] at hp
  have:=hm x (by simp)
  have:=rA lo hi l (x+1) hp.2 (fun y hy=>⟨by have:=hp.1 y hy;omega,(hm y (by simp [hy])).2⟩) (by omega)
  simp;omega
noncomputable def ac (s:ByteArray) (lo hi:Int):List Int×Bool:=(fM s lo hi).getD ([],false)
noncomputable def aN (s:ByteArray) (i:Int):List Int×Bool:=ac s (aE i).1 (aE i).2
def FF (lo hi:Int) (r:List Int×Bool):Prop:=(r.2=false∧r.1=[])∨(r.2=true∧r.1.Pairwise (· < ·)∧r.1≠[]∧(∀ x∈r.1,lo≤x∧x≤hi)∧r.1.length≤60)
theorem vl (s:ByteArray) (lo hi:Int) (hs:s.size≤2000000) (hb:0≤lo∧lo≤hi∧hi≤59):fM s lo hi=some (ac s lo hi)∧FF lo hi (ac s lo hi)∧∀ i,aE i=(lo,hi)→fz s i=some (ac s lo hi):=by
 obtain ⟨h0,hlh,hhi⟩:=hb
 have hinc:inc hi=hi+1:=m8 _ (by omega) (by omega)
 have hl:=vi 44 (tx s)
 rw [← cM] at hl
 have hL:aj s 44=(bG 44 (tx s)).map ofTx:=rfl
 have hlen:(aj s 44).length≤2000001:=by rw [hL,List.length_map];omega
 have hpz:∀ p∈aj s 44,p.size≤2000000:=fun p hp=>by
  rw [hL] at hp
  obtain ⟨x,hx,rfl⟩:=List.mem_map.1 hp
  have:=vj _ _ x hx
  rw [na]
  rw [← cM] at this
  omega
 have hM:Marks lo hi (List.replicate (inc hi).toNat false) []:=by
  refine ⟨by rw [List.length_replicate,hinc];omega,fun x hx=>(by cases hx),fun j hj => ?_⟩
  rw [List.getElem?_replicate,if_pos (by omega)]
  simp
 have hne:aj s 44≠[]:=by
  obtain ⟨x,xs,e⟩:=fS 44 (tx s)
  rw [hL,e];simp
 have hc:((0:Int)≤44∧(44:Int)<256)=True:=eq_true (by decide)
 have pre:(s.size≤2000000)=True:=eq_true hs
 have iF:∀ i,aE i=(lo,hi)→∀ r,(cR lo hi (aj s 44) 0 []).bind (fun y=>match y with
   | .ret w0_4 w0_5=>(some (w0_4,w0_5))
   | .x0 w0_8=>(if w0_8.length<4611686018427387904 then if (dg w0_8).length≤9223372036854775807 then some (id (gz (dg w0_8)),true) else none else none))=some r→fz s i=some r:=fun i hi r hr=>by
  unfold fz
  rw [if_pos (by omega),if_pos (by decide),wV, ← hL,if_pos (by omega),hi]
  exact hr
 have sF:fM s lo hi=(dG lo hi (aj s 44) 0 (List.replicate (inc hi).toNat false)).bind fun y=>match y with
   | .ret w0_6 w0_7=>(some (w0_6,w0_7))
   | .x0 w0_8=>((en hi w0_8 9223372036854775808 ([]) lo).bind fun y=>match y with
    | .x4 w1_16=>(some (w1_16,true))):=by
  unfold fM
  simp only [hc,pre,if_true]
  rw [if_pos (by omega),if_pos (by omega)]
 rcases uE lo hi h0 hlh hhi (aj s 44) 0 _ [] hpz hM (by simp;omega) with ⟨h1,h2⟩ | ⟨has,l,h1,h2,h3,h4,h5⟩
 ·rw [h1] at sF
  have sF':fM s lo hi=some ([],false):=sF
  have e:ac s lo hi=([],false):=by unfold ac;rw [sF'];rfl
  rw [e]
  exact ⟨sF',.inl ⟨rfl,rfl⟩,fun i hi=>iF i hi _ (by rw [h2];rfl)⟩
 ·obtain ⟨w,w1,w2,w3⟩:=Fj hi has h3.1 hhi 60 9223372036854775808 lo [] (by omega) (by omega) h0 (by omega) (by simp) (by simp) (fun y hy=>by cases hy)
  have hw:∀ y,y∈w↔y∈l:=fun y=>by
   rw [w3]
   constructor
   ·rintro (h | ⟨a1,a2,a3⟩)
    ·cases h
    ·have:=(h3.2.2 y.toNat (by omega)).1 a3
     rwa [show ((y.toNat:Nat):Int)=y by omega] at this
   ·intro h
    have b:=h3.2.1 y h
    refine .inr ⟨b.1,b.2,(h3.2.2 y.toNat (by omega)).2 ?_⟩
    rwa [show ((y.toNat:Nat):Int)=y by omega]
  obtain ⟨c1,c2⟩:=Ci l
  have e3:gz (dg l)=w:=ue c1 w2 fun y=>(c2 y).trans (hw y).symm
  rw [h1,Option.bind_some] at sF
  simp only [w1,Option.bind_some] at sF
  have e:ac s lo hi=(w,true):=by unfold ac;rw [sF];rfl
  rw [e]
  have wm:∀ x∈w,lo≤x∧x≤hi:=fun x hx=>h3.2.1 x ((hw x).1 hx)
  have wl:=rA lo hi w lo w2 wm (by omega)
  refine ⟨sF,.inr ⟨rfl,w2,fun z => ?_,wm,by show w.length≤60;omega⟩,fun i hi=>iF i hi _ ?_⟩
  ·have hln:=h5 (.inl hne)
   cases q:l with
   | nil=>exact hln q
   | cons x t=>have:=(hw x).2 (by rw [q];simp);rw [show w=[] from z] at this;cases this
  ·rw [h2,Option.bind_some]
   simp only
   have sl:(dg l).length=l.length:=List.length_mergeSort l
   rw [sl,if_pos (by simp at h4;omega),if_pos (by simp at h4;omega),e3]
   rfl
theorem zp (s:ByteArray) (i:Int) (hs:s.size≤2000000):fz s i=some (aN s i):=(vl s _ _ hs (FN i)).2.2 i rfl
theorem dz (x0:ByteArray) (x1:Int) (x2:Int) (h:x0.size≤2000000) (hb:0≤x1∧x1≤x2∧x2≤59):Does E 67 [.one (tS x0),.one (tI x1),.one (tI x2)] [(false,[.s .own () 1 (((ac x0 x1 x2).1).map etI)]),(false,[tB ((ac x0 x1 x2).2)])]:=by
 exact B5 x0 x1 x2 _ (vl x0 x1 x2 h hb).1
theorem xe (x0:ByteArray) (x1:Int) (h:x0.size≤2000000):Does E 92 [.one (tS x0),.one (tI x1)] [(false,[.s .own () 1 (((aN x0 x1).1).map etI)]),(false,[tB ((aN x0 x1).2)])]:=by
 exact xA x0 x1 _ (zp x0 x1 h)
theorem b8 (x0:ByteArray) (x1:Int) (h:x0.size≤2000000) {bb:Bool} (hbb:(aN x0 x1).2=bb):Does E 92 [.one (tS x0),.one (tI x1)] [(false,[.s .own () 1 (((aN x0 x1).1).map etI)]),(false,[tB bb])]:=by rw [← hbb];exact xe x0 x1 h
end Go.Proofs.YtgaiiephdjllkaaGreatDoor.Am
