/- Numbers in words. -/
import Derived.Test.YtdcbjglpdbcjpaaGreatDoorEnv
import Derived.Test.YtdcbjglpdbcjpaaGreatDoorShelf
namespace Go.Proofs.YtdcbjglpdbcjpaaGreatDoor.Am
open Go Go.Proofs Classical
set_option maxRecDepth 100000
set_option linter.unusedVariables false
set_option linter.unusedSimpArgs false
structure GCron where
 f0:List Int
 f1:List Int
 f2:List Int
 f3:List Int
 f4:List Int
def GCron.t (k:Kd) (x:GCron):List (T Unit):=[.s k () 1 (x.f0.map etI),.s k () 1 (x.f1.map etI),.s k () 1 (x.f2.map etI),.s k () 1 (x.f3.map etI),.s k () 1 (x.f4.map etI)]
instance:am GCron:=⟨fun x=>am.sm x.f0∧am.sm x.f1∧am.sm x.f2∧am.sm x.f3∧am.sm x.f4⟩
instance:Wf GCron:=⟨fun x=>Wf.wf x.f0∧Wf.wf x.f1∧Wf.wf x.f2∧Wf.wf x.f3∧Wf.wf x.f4⟩
structure GTask where
 f0:ByteArray
 f1:ByteArray
 f2:Int
 f3:Bool
 f4:List ByteArray
def GTask.t (k:Kd) (x:GTask):List (T Unit):=[tS x.f0,tS x.f1,tI x.f2,tB x.f3,.s k () 1 (x.f4.map etS)]
instance:am GTask:=⟨fun x=>am.sm x.f0∧am.sm x.f1∧am.sm x.f4⟩
instance:Wf GTask:=⟨fun x=>Wf.wf x.f0∧Wf.wf x.f1∧Wf.wf x.f4⟩
structure GDag where
 f0:ByteArray
 f1:ByteArray
 f2:Int
 f3:Int
 f4:Bool
 f5:List GTask
def GDag.t (k q:Kd) (x:GDag):List (T Unit):=[tS x.f0,tS x.f1,tI x.f2,tI x.f3,tB x.f4,.s k () 5 (x.f5.map (GTask.t q))]
instance:am GDag:=⟨fun x=>am.sm x.f0∧am.sm x.f1∧am.sm x.f5⟩
instance:Wf GDag:=⟨fun x=>Wf.wf x.f0∧Wf.wf x.f1∧Wf.wf x.f5⟩
structure LDag where
 f0:ByteArray
 f1:ByteArray
 f2:Int
 f3:Int
 f4:Bool
 f5:List GTask
def LDag.t (k q:Kd) (x:LDag):List (T Unit):=[tS x.f0,tS x.f1,tI x.f2,tI x.f3,tB x.f4,.s k () 5 (x.f5.map (GTask.t q))]
instance:am LDag:=⟨fun x=>am.sm x.f0∧am.sm x.f1∧am.sm x.f5⟩
instance:Wf LDag:=⟨fun x=>Wf.wf x.f0∧Wf.wf x.f1∧Wf.wf x.f5⟩
structure GSpan where
 f0:Int
 f1:Int
def GSpan.t (x:GSpan):List (T Unit):=[tI x.f0,tI x.f1]
instance:am GSpan:=⟨fun x=>True⟩
instance:Wf GSpan:=⟨fun x=>True⟩
structure GState where
 f0:Int
 f1:Int
 f2:Int
 f3:Int
def GState.t (x:GState):List (T Unit):=[tI x.f0,tI x.f1,tI x.f2,tI x.f3]
instance:am GState:=⟨fun x=>True⟩
instance:Wf GState:=⟨fun x=>True⟩
structure GRun where
 f0:ByteArray
 f1:GSpan
 f2:Int
 f3:List GState
def GRun.t (k:Kd) (x:GRun):List (T Unit):=[tS x.f0]++GSpan.t x.f1++[tI x.f2]++[.s k () 4 (x.f3.map GState.t)]
instance:am GRun:=⟨fun x=>am.sm x.f0∧am.sm x.f1∧am.sm x.f3⟩
instance:Wf GRun:=⟨fun x=>Wf.wf x.f0∧Wf.wf x.f1∧Wf.wf x.f3⟩
structure LRun where
 f0:ByteArray
 f1:GSpan
 f2:Int
 f3:List GState
def LRun.t (k:Kd) (x:LRun):List (T Unit):=[tS x.f0]++GSpan.t x.f1++[tI x.f2]++[.s k () 4 (x.f3.map GState.t)]
instance:am LRun:=⟨fun x=>am.sm x.f0∧am.sm x.f1∧am.sm x.f3⟩
instance:Wf LRun:=⟨fun x=>Wf.wf x.f0∧Wf.wf x.f1∧Wf.wf x.f3⟩
def dv (s sep:ByteArray):List ByteArray:=Lib.splitB sep 0 (Lib.countB s sep) s
def aQ (xs:List ByteArray) (sep:ByteArray):ByteArray:=⟨(Lib.join (xs.map (·.data.toList)) sep.data.toList).toArray⟩
def be (n:Int):ByteArray:=⟨(Lib.itoa n).toArray⟩
def aE (s sep:ByteArray):ByteArray×ByteArray×Bool:=(⟨(Lib.cut s.data.toList sep.data.toList).1.toArray⟩,⟨(Lib.cut s.data.toList sep.data.toList).2.1.toArray⟩,(Lib.cut s.data.toList sep.data.toList).2.2)
def bD (s p:ByteArray):ByteArray×Bool:=(⟨(Lib.trimPrefix s.data.toList p.data.toList).toArray⟩,Lib.hasPrefix s.data.toList p.data.toList)
noncomputable def dr (l:List Int):List Int:=l.mergeSort fun x y=>decide (x≤y)
noncomputable def hJ (l:List Int):List Int:=Lib.compact l
theorem jw (x0 x1:ByteArray) (h1:x0.size<4294967281) (h2:1≤x1.size):Does E 89 [.one (tS x0),.one (tS x1)] [(false,[.s .own () 1 ((dv x0 x1).map etS)])]:=by
 refine Does.orc ⟨0,fun k _ => ?_⟩
 have o:∀ C us,E.orc C 89 us=xM us:=fun _ _=>rfl
 refine (o _ _).trans ?_
 show (if _ then _ else _)=_
 rw [if_pos ⟨h1,h2⟩]
 rfl
theorem dP (x0 x1:ByteArray) (h1:x0.size<4294967281):Does E 103 [.one (tS x0),.one (tS x1)] [(false,[tS (aE x0 x1).1]),(false,[tS (aE x0 x1).2.1]),(false,[tB (aE x0 x1).2.2])]:=by
 refine Does.orc ⟨0,fun k _ => ?_⟩
 have o:∀ C us,E.orc C 103 us=E4 us:=fun _ _=>rfl
 refine (o _ _).trans ?_
 show (if _ then _ else _)=_
 rw [if_pos h1]
 rfl
theorem bu (x0 x1:ByteArray)  : Does E 101 [.one (tS x0),.one (tS x1)] [(false,[tS (bD x0 x1).1]),(false,[tB (bD x0 x1).2])]:=by
 refine Does.orc ⟨0,fun k _ => ?_⟩
 have o:∀ C us,E.orc C 101 us=ol us:=fun _ _=>rfl
 refine (o _ _).trans ?_
 rfl
theorem x5 (x0:Int) (h : -9223372036854775808≤x0∧x0≤9223372036854775807):Does E 94 [.one (tI x0)] [(false,[tS (be x0)])]:=by
 refine Does.orc ⟨0,fun k _ => ?_⟩
 have o:∀ C us,E.orc C 94 us=AS us:=fun _ _=>rfl
 refine (o _ _).trans ?_
 show (if _ then _ else _)=_
 rw [if_pos h]
 rfl
theorem fV (x0:List ByteArray) (x1:ByteArray) (h:x0.length≤140737488355328∧(aQ x0 x1).size≤140737488355328):Does E 84 [.one (.s .far () 1 (x0.map etS)),.one (tS x1)] [(false,[tS (aQ x0 x1)])]:=by
 refine Does.orc ⟨0,fun k _ => ?_⟩
 have o:∀ C us,E.orc C 84 us=AT us:=fun _ _=>rfl
 refine (o _ _).trans ?_
 show (pv _).bind _=_
 rw [xP,Option.bind_some,if_pos ⟨h.1,h.2⟩]
 rfl
theorem oh (x0:List Int) (h:x0.length<4611686018427387904):Does E 86 [.one (.s .own () 1 (x0.map etI))] [(false,[.s .own () 1 ((dr x0).map etI)])]:=by
 refine Does.orc ⟨0,fun k _ => ?_⟩
 have o:∀ C us,E.orc C 86 us=AX us:=fun _ _=>rfl
 refine (o _ _).trans ?_
 show (jU _).bind _=_
 rw [ov,Option.bind_some,if_pos h]
 rfl
theorem rA (x0:List Int) (h:x0.length≤9223372036854775807):Does E 93 [.one (.s .own () 1 (x0.map etI))] [(false,[.any]),(false,[.s .own () 1 ((hJ x0).map etI)])]:=by
 refine Does.orc ⟨0,fun k _ => ?_⟩
 have o:∀ C us,E.orc C 93 us=rG us:=fun _ _=>rfl
 refine (o _ _).trans ?_
 show (jU _).bind _=_
 rw [ov,Option.bind_some,if_pos h]
 rfl
theorem u7 (x0:List Int)  : Does E 92 [.one (.s .own () 1 (x0.map etI))] [(false,[.any]),(false,[.s .own () 1 ((id x0).map etI)])]:=by
 refine Does.orc ⟨0,fun k _ => ?_⟩
 have o:∀ C us,E.orc C 92 us=AO us:=fun _ _=>rfl
 refine (o _ _).trans ?_
 show (jU _).bind _=_
 rw [ov,Option.bind_some]
 rfl
end Go.Proofs.YtdcbjglpdbcjpaaGreatDoor.Am
namespace Go.Proofs.YtdcbjglpdbcjpaaGreatDoor.Am
open Go Go.Proofs Classical
set_option maxRecDepth 100000
set_option linter.unusedVariables false
set_option linter.unusedSimpArgs false
def aM (x a b:Int):Bool:=decide (x≥a)&&decide (x≤b)
theorem lR {α:Type} {l:List α} {k:Int} (h:0≤k∧k<(l.length:Int)):∃ x,aA l k=some x∧x∈l:=by
 unfold aA
 rw [if_pos h.1,List.getElem?_eq_getElem (by omega)]
 exact ⟨_,rfl,List.getElem_mem _⟩
noncomputable def uJ (x0 x1 x2:Int):Option (Bool) :=
  cond (decide (x0≥x1))
   (some (decide (x0≤x2)))
   (some (false))
theorem Hp (x0 x1 x2:Int):Ans (uJ x0 x1 x2) (fun r=>Does E 37 [.one (tI x0),.one (tI x1),.one (tI x2)] [(false,[tB r])]):=by
 unfold uJ
 apply K0<;>intro h0
 ·exact KX (DP Tryz.f37 [.b true] (AC h0<|AN))
 ·exact KX (DP Tryz.f37 [.b false] (AC h0<|AN))
theorem bz (x0:Int) (x1:Int) (x2:Int):Does E 37 [.one (tI x0),.one (tI x1),.one (tI x2)] [(false,[tB (aM x0 x1 x2)])]:=by
 exact Hp x0 x1 x2 _ (by unfold uJ aM;cases decide (x0≥x1)<;>rfl)
noncomputable def ql (x0 x1 x2:Int):Option (Bool) :=
  cond (decide (x0≥x1))
   (some (decide (x0≤x2)))
   (some (false))
theorem DD (x0 x1 x2:Int):Ans (ql x0 x1 x2) (fun r=>Does E 47 [.one (tI x0),.one (tI x1),.one (tI x2)] [(false,[tB r])]):=by
 unfold ql
 apply K0<;>intro h0
 ·exact KX (DP Tryz.f47 [.b true] (AC h0<|AN))
 ·exact KX (DP Tryz.f47 [.b false] (AC h0<|AN))
theorem de (x0:Int) (x1:Int) (x2:Int):Does E 47 [.one (tI x0),.one (tI x1),.one (tI x2)] [(false,[tB (aM x0 x1 x2)])]:=by
 exact DD x0 x1 x2 _ (by unfold ql aM;cases decide (x0≥x1)<;>rfl)
noncomputable def jh (x0:Int):Option (Int) :=
  cond (decide (x0<(10:Int)))
   (some (IntKind.wrap .u8 (IntKind.wrap .i64 ((48:Int)+x0))))
   (some (IntKind.wrap .u8 (IntKind.wrap .i64 ((IntKind.wrap .i64 ((97:Int)+x0))-(10:Int)))))
theorem Ao (x0:Int):Ans (jh x0) (fun r=>Does E 88 [.one (tI x0)] [(false,[tY r])]):=by
 unfold jh
 apply K0<;>intro h0
 ·exact KX (DP Tryz.f88 [.b true] (AC h0<|AN))
 ·exact KX (DP Tryz.f88 [.b false] (AC h0<|AN))
theorem IK {x:Int} (h0:0≤x) (h1:x<256):IntKind.wrap .u8 x=x:=by
 simp only [IntKind.wrap,IntKind.bits,IntKind.signed]
 simp
 omega
noncomputable def cA (x:Int):Int:=(jh x).getD 0
theorem Bx (d:Nat) (h:d<10):cA (d:Int)=48+(d:Int):=by
 unfold cA jh
 rw [decide_eq_true (by omega),cond_true,Option.getD_some,du _ (by omega) (by omega),IK (by omega) (by omega)]
theorem sJ (x0:Int):Does E 88 [.one (tI x0)] [(false,[tY (cA x0)])]:=by
 exact Ao x0 _ (by unfold cA jh;cases decide (x0<10)<;>rfl)
noncomputable def qj (x0:Int):Option (ByteArray) :=
  if -9223372036854775808≤x0∧x0≤9223372036854775807 then some (be x0) else none
theorem Dy (x0:Int):Ans (qj x0) (fun r=>Does E 83 [.one (tI x0)] [(false,[tS r])]):=by
 unfold qj
 refine K2 (fun h0 => ?_)
 exact KX (DP Tryz.f83 [.ret [(false,[tS (be x0)])]] (AD (x5 x0 h0)<|AN))
theorem qa (x0:Int) (h : -9223372036854775808≤x0∧x0≤9223372036854775807):Does E 83 [.one (tI x0)] [(false,[tS (be x0)])]:=by
 exact Dy x0 _ (by unfold qj;rw [if_pos h])
inductive uH where
 | x0 (v4:ByteArray)
def iw (v0:Int) (v3:Bool) (v4:ByteArray):US:=stL 30 [(0,.one (tI v0)),(3,.one (tB v3)),(4,.one (tS v4))]
def ky (v3:Bool) (zv4:ByteArray):US:=stL 30 [(3,.one (tB v3)),(4,.one (tS zv4))]
abbrev pn:US→Exit→US→Prop:=Round E 77 (aw Tryz.f77 0)
def Cz (v0:Int) (v3:Bool) (v4:ByteArray):uH→Prop
 | .x0 zv4=>Loops E 77 (aw Tryz.f77 0) (iw v0 v3 v4) (.exit 0) (ky v3 zv4)
noncomputable def fc  : Nat→Int→Bool→ByteArray→Option uH
 | 0,_,_,_=>none
 | n+1,v0,v3,v4=>cond (v0 != (0:Int))
  (cond (decide ((Int.tmod v0 (10:Int))<(0:Int)))
   (if (strOfNums ([cA (IntKind.wrap .i64 (0-(Int.tmod v0 (10:Int))))])).size+v4.size≤maxStr then fc n (IntKind.wrap .i64 (Int.tdiv v0 (10:Int))) v3 ((strOfNums ([cA (IntKind.wrap .i64 (0-(Int.tmod v0 (10:Int))))]))++v4) else none)
   (if (strOfNums ([cA (Int.tmod v0 (10:Int))])).size+v4.size≤maxStr then fc n (IntKind.wrap .i64 (Int.tdiv v0 (10:Int))) v3 ((strOfNums ([cA (Int.tmod v0 (10:Int))]))++v4) else none))
  (some (.x0 v4))
theorem uG  (n:Nat):∀ (v0:Int) (v3:Bool) (v4:ByteArray),Ans (fc n v0 v3 v4) (Cz v0 v3 v4):=by
 induction n with
 | zero=>intros;exact Ans.none
 | succ n ih =>
  intro v0 v3 v4
  unfold fc
  apply K0<;>intro h0
  ·apply K0<;>intro h1
   ·refine K2 (fun h2 => ?_)
    have r:pn (iw v0 v3 v4) .normal (iw (IntKind.wrap .i64 (Int.tdiv v0 (10:Int))) v3 ((strOfNums ([cA (IntKind.wrap .i64 (0-(Int.tmod v0 (10:Int))))]))++v4)):=RP [.b true,.no,.b true,.ret [(false,[tY (cA (IntKind.wrap .i64 (0-(Int.tmod v0 (10:Int)))))])],.val (.string (strOfNums ([cA (IntKind.wrap .i64 (0-(Int.tmod v0 (10:Int))))]))),.val (.string ((strOfNums ([cA (IntKind.wrap .i64 (0-(Int.tmod v0 (10:Int))))]))++v4))] (AC h0<|AC h1<|AD (sJ (IntKind.wrap .i64 (0-(Int.tmod v0 (10:Int)))))<|AC (p:=(c9 (((([cA (IntKind.wrap .i64 (0-(Int.tmod v0 (10:Int))))]).map etY).drop 0).take (([cA (IntKind.wrap .i64 (0-(Int.tmod v0 (10:Int))))]).map etY).length)).map strOfNums=some (strOfNums ([cA (IntKind.wrap .i64 (0-(Int.tmod v0 (10:Int))))]))) (by simp only [List.take_length,List.drop_zero];exact CV)<|AC (fG (tab:=E.tab) (t:=9) h2)<|AN);exact (ih (IntKind.wrap .i64 (Int.tdiv v0 (10:Int))) v3 ((strOfNums ([cA (IntKind.wrap .i64 (0-(Int.tmod v0 (10:Int))))]))++v4)).mono fun y hy=>by cases y<;>exact KY r hy
   ·refine K2 (fun h2 => ?_)
    have r:pn (iw v0 v3 v4) .normal (iw (IntKind.wrap .i64 (Int.tdiv v0 (10:Int))) v3 ((strOfNums ([cA (Int.tmod v0 (10:Int))]))++v4)):=RP [.b true,.no,.b false,.ret [(false,[tY (cA (Int.tmod v0 (10:Int)))])],.val (.string (strOfNums ([cA (Int.tmod v0 (10:Int))]))),.val (.string ((strOfNums ([cA (Int.tmod v0 (10:Int))]))++v4))] (AC h0<|AC h1<|AD (sJ (Int.tmod v0 (10:Int)))<|AC (p:=(c9 (((([cA (Int.tmod v0 (10:Int))]).map etY).drop 0).take (([cA (Int.tmod v0 (10:Int))]).map etY).length)).map strOfNums=some (strOfNums ([cA (Int.tmod v0 (10:Int))]))) (by simp only [List.take_length,List.drop_zero];exact CV)<|AC (fG (tab:=E.tab) (t:=9) h2)<|AN);exact (ih (IntKind.wrap .i64 (Int.tdiv v0 (10:Int))) v3 ((strOfNums ([cA (Int.tmod v0 (10:Int))]))++v4)).mono fun y hy=>by cases y<;>exact KY r hy
  ·exact KX (KZ (show pn (iw v0 v3 v4) (.exit 0) (ky v3 v4) from RP [.b false] (AC h0<|AN)) (by intro h;cases h))
noncomputable def nt (x0:Int):Option (ByteArray) :=
  cond (x0==(0:Int))
   (some ((⟨#[48]⟩:ByteArray)))
   (cond (decide (x0<(0:Int)))
    ((fc 9223372036854775808 x0 true ByteArray.empty).bind fun y=>match y with
     | .x0 w0_4=>(if (⟨#[45]⟩:ByteArray).size+w0_4.size≤maxStr then some ((⟨#[45]⟩:ByteArray)++w0_4) else none))
    ((fc 9223372036854775808 x0 false ByteArray.empty).bind fun y=>match y with
     | .x0 w0_4=>(some (w0_4))))
theorem DZ (x0:Int):Ans (nt x0) (fun r=>Does E 77 [.one (tI x0)] [(false,[tS r])]):=by
 unfold nt
 apply K0<;>intro h0
 ·exact KX (DP Tryz.f77 [.b true] (AC h0<|AN))
 ·apply K0<;>intro h1
  ·refine K1 (fun y hy => ?_)
   replace hy:=uG 9223372036854775808 x0 true ByteArray.empty y hy
   cases y with
   | x0 w0_4 =>
    have h2:=hy
    refine K2 (fun h3 => ?_)
    exact KX (DP Tryz.f77 [.b false,.b true,.lp (.exit 0) (ky true w0_4),.val (.string ((⟨#[45]⟩:ByteArray)++w0_4))] (AC h0<|AC h1<|AL h2<|AC (fG (tab:=E.tab) (t:=9) h3)<|AN))
  ·refine K1 (fun y hy => ?_)
   replace hy:=uG 9223372036854775808 x0 false ByteArray.empty y hy
   cases y with
   | x0 w0_4 =>
    have h2:=hy
    exact KX (DP Tryz.f77 [.b false,.b false,.lp (.exit 0) (ky false w0_4)] (AC h0<|AC h1<|AL h2<|AN))
theorem xz (d:Nat) (h:d<10):strOfNums [cA (d:Int)]=ofTx [UInt8.ofNat (48+d)]:=by
 rw [Bx d h]
 unfold strOfNums ofTx
 have:(48+(d:Int)).toNat=48+d:=by omega
 simp [this]
def tL (u:Nat):List UInt8:=if u=0 then [] else Lib.decDigits u
theorem Gp (u:Nat) (h:0<u):tL u=tL (u/10)++[UInt8.ofNat (48+u % 10)]:=by
 unfold tL
 rw [if_neg (by omega),Dg u h]
theorem HS (u:Nat) (h:u<10 ^ 19):(tL u).length≤19:=by
 unfold tL
 split
 ·simp
 ·exact rK 18 u h
theorem zb (b:Bool):∀ (n:Nat) (v:Int) (s:List UInt8), -9223372036854775808≤v→v≤9223372036854775807→v.natAbs<10 ^ n→s.length+n≤100→∀ m,n<m→fc m v b (ofTx s)=some (.x0 (ofTx (tL v.natAbs++s)))
 | 0,v,s,_,_,h,_,m,hm=>by
  obtain ⟨m,rfl⟩:∃ k,m=k+1:=⟨m-1,by omega⟩
  have:v=0:=by simpa using h
  subst this
  rfl
 | n+1,v,s,h1,h2,h,hs,m,hm=>by
  obtain ⟨m,rfl⟩:∃ k,m=k+1:=⟨m-1,by omega⟩
  unfold fc
  by_cases z:v=0
  ·subst z;rfl
  ·have hz:(v != 0)=true:=by simpa using z
   rw [hz,cond_true]
   have hpos:0<v.natAbs:=by omega
   have hd:v.natAbs % 10<10:=Nat.mod_lt _ (by omega)
   have hq:(Int.tdiv v 10).natAbs=v.natAbs/10:=by rw [Int.natAbs_tdiv];rfl
   have hw:IntKind.wrap .i64 (Int.tdiv v 10)=Int.tdiv v 10:=du _ (by omega) (by omega)
   have hm0:(Int.tmod v 10).natAbs=v.natAbs % 10:=by rw [Int.natAbs_tmod];rfl
   have ih:=zb b n (Int.tdiv v 10) ([UInt8.ofNat (48+v.natAbs % 10)]++s) (by omega) (by omega) (by rw [hq];rw [Nat.pow_succ] at h;omega) (by simp;omega) m (by omega)
   rw [hq, ← List.append_assoc, ← Gp _ hpos] at ih
   have sz:∀ l:List UInt8,(ofTx l).size=l.length:=fun l=>cM _
   by_cases c:Int.tmod v 10<0
   ·have e:IntKind.wrap .i64 (0-Int.tmod v 10)=((v.natAbs % 10:Nat):Int):=by rw [du _ (by omega) (by omega)];omega
    rw [decide_eq_true c,cond_true,e,xz _ hd,if_pos (by rw [sz,sz];simp [maxStr];omega),hw,m4]
    exact ih
   ·have e:Int.tmod v 10=((v.natAbs % 10:Nat):Int):=by omega
    rw [decide_eq_false c,cond_false,e,xz _ hd,if_pos (by rw [sz,sz];simp [maxStr];omega),hw,m4]
    exact ih
theorem Gn (x:Int) (h : -9223372036854775808≤x∧x≤9223372036854775807):nt x=some (be x):=by
 unfold nt be Lib.itoa
 by_cases z:x=0
 ·subst z
  show some _=some _
  rw [if_neg (by omega),Lib.decDigits,dif_pos (by simp)];rfl
 ·have hz:(x==0)=false:=by simpa using z
  have hb:x.natAbs<10 ^ 19:=by have:(10:Nat) ^ 19=10000000000000000000:=rfl;omega
  have hl:=fun b=>zb b 19 x [] h.1 h.2 hb (by simp) 9223372036854775808 (by omega)
  have e0:ofTx []=ByteArray.empty:=rfl
  rw [e0] at hl
  have dl:=HS _ hb
  rw [hz,cond_false,hl,hl]
  simp only [List.append_nil,Option.bind_some]
  have sz:∀ l:List UInt8,(ofTx l).size=l.length:=fun l=>cM _
  have hd:tL x.natAbs=Lib.decDigits x.natAbs:=by unfold tL;rw [if_neg (by omega)]
  by_cases c:x<0
  ·have e1:(⟨#[45]⟩:ByteArray)=ofTx [45]:=rfl
   rw [decide_eq_true c,cond_true,if_pos c,e1,if_pos (by rw [sz,sz];simp [maxStr];omega),m4,hd]
   rfl
  ·have e2:x.natAbs=x.toNat:=by omega
   rw [decide_eq_false c,cond_false,if_neg c,hd,e2]
   rfl
theorem ni (x0:Int) (h : -9223372036854775808≤x0∧x0≤9223372036854775807):Does E 77 [.one (tI x0)] [(false,[tS (be x0)])]:=by
 exact DZ x0 _ (Gn x0 h)
inductive uI where
 | ret (v2:List ByteArray) (v3:Bool)
 | x0 (v4:List ByteArray)
def bO (v0:ByteArray) (v4:List ByteArray) (v5 v6:Int):US:=stL 62 [(0,.one (tS v0)),(4,.one (.s .own () 1 (v4.map etS))),(5,.one (tI v5)),(6,.one (tI v6))]
def jE (zv2:List ByteArray) (zv3:Bool):US:=stL 62 [(2,.one (.s .own () 1 (zv2.map etS))),(3,.one (tB zv3))]
def kz (zv4:List ByteArray):US:=stL 62 [(4,.one (.s .own () 1 (zv4.map etS)))]
abbrev fd:US→Exit→US→Prop:=Round E 58 (aw Tryz.f58 0)
def CB (v0:ByteArray) (v4:List ByteArray) (v5 v6:Int):uI→Prop
 | .ret zv2 zv3=>Loops E 58 (aw Tryz.f58 0) (bO v0 v4 v5 v6) .ret (jE zv2 zv3)
 | .x0 zv4=>Loops E 58 (aw Tryz.f58 0) (bO v0 v4 v5 v6) (.exit 0) (kz zv4)
noncomputable def cE (v0:ByteArray):Nat→(List ByteArray)→Int→Int→Option uI
 | 0,_,_,_=>none
 | n+1,v4,v5,v6=>cond (decide (v6≤(v0.size:Int)))
  (cond (decide (v6<(v0.size:Int)))
   (if 0≤v6∧v6<(v0.size:Int) then cond (decide ((fJ v0 v6)<(32:Int)))
    (some (.ret ([]) false))
    (cond (decide ((fJ v0 v6)>(126:Int)))
     (some (.ret ([]) false))
     (cond ((fJ v0 v6) != (32:Int))
      (cE v0 n v4 v5 (inc v6))
      (cond (decide (v5<v6))
       (if 0≤v5∧v5≤v6∧v6≤(v0.size:Int) then if (v4.length+([v0.extract v5.toNat v6.toNat]).length)*16≤140737488355328∧v4.length+([v0.extract v5.toNat v6.toNat]).length≤4611686018427387904 then cE v0 n (v4++([v0.extract v5.toNat v6.toNat])) (inc v6) (inc v6) else none else none)
       (cE v0 n v4 (inc v6) (inc v6))))) else none)
   (cond (decide (v5<v6))
    (if 0≤v5∧v5≤v6∧v6≤(v0.size:Int) then if (v4.length+([v0.extract v5.toNat v6.toNat]).length)*16≤140737488355328∧v4.length+([v0.extract v5.toNat v6.toNat]).length≤4611686018427387904 then cE v0 n (v4++([v0.extract v5.toNat v6.toNat])) (inc v6) (inc v6) else none else none)
    (cE v0 n v4 (inc v6) (inc v6))))
  (some (.x0 v4))
theorem CA (v0:ByteArray) (n:Nat):∀ (v4:List ByteArray) (v5 v6:Int),Ans (cE v0 n v4 v5 v6) (CB v0 v4 v5 v6):=by
 induction n with
 | zero=>intros;exact Ans.none
 | succ n ih =>
  intro v4 v5 v6
  unfold cE
  apply K0<;>intro h0
  ·apply K0<;>intro h1
   ·refine K2 (fun h2 => ?_)
    apply K0<;>intro h3
    ·exact KX (KZ (show fd (bO v0 v4 v5 v6) .ret (jE ([]) false) from RP [.b true,.b true,.b true] (AC h0<|AC h1<|AC h2<|AC h3<|AN)) (by intro h;cases h))
    ·apply K0<;>intro h4
     ·exact KX (KZ (show fd (bO v0 v4 v5 v6) .ret (jE ([]) false) from RP [.b true,.b true,.b false,.b true] (AC h0<|AC h1<|AC h2<|AC h3<|AC h2<|AC h4<|AN)) (by intro h;cases h))
     ·apply K0<;>intro h5
      ·have r:fd (bO v0 v4 v5 v6) .normal (bO v0 v4 v5 (inc v6)):=RP [.b true,.b true,.b false,.b false,.b true,.b true] (AC h0<|AC h1<|AC h2<|AC h3<|AC h2<|AC h4<|AC h1<|AC h2<|AC h5<|AN);exact (ih v4 v5 (inc v6)).mono fun y hy=>by cases y<;>exact KY r hy
      ·apply K0<;>intro h6
       ·refine K2 (fun h7 => ?_)
        refine K2 (fun h8 => ?_)
        have r:fd (bO v0 v4 v5 v6) .normal (bO v0 (v4++([v0.extract v5.toNat v6.toNat])) (inc v6) (inc v6)):=RP [.b true,.b true,.b false,.b false,.b true,.b false,.b true,.rows ((v4++([v0.extract v5.toNat v6.toNat])).map etS)] (AC h0<|AC h1<|AC h2<|AC h3<|AC h2<|AC h4<|AC h1<|AC h2<|AC h5<|AC h6<|AC h7<|AAp etS (fun _=>rfl) h8<|AN);exact (ih (v4++([v0.extract v5.toNat v6.toNat])) (inc v6) (inc v6)).mono fun y hy=>by cases y<;>exact KY r hy
       ·have r:fd (bO v0 v4 v5 v6) .normal (bO v0 v4 (inc v6) (inc v6)):=RP [.b true,.b true,.b false,.b false,.b true,.b false,.b false] (AC h0<|AC h1<|AC h2<|AC h3<|AC h2<|AC h4<|AC h1<|AC h2<|AC h5<|AC h6<|AN);exact (ih v4 (inc v6) (inc v6)).mono fun y hy=>by cases y<;>exact KY r hy
   ·apply K0<;>intro h2
    ·refine K2 (fun h3 => ?_)
     refine K2 (fun h4 => ?_)
     have r:fd (bO v0 v4 v5 v6) .normal (bO v0 (v4++([v0.extract v5.toNat v6.toNat])) (inc v6) (inc v6)):=RP [.b true,.b false,.b false,.b true,.rows ((v4++([v0.extract v5.toNat v6.toNat])).map etS)] (AC h0<|AC h1<|AC h1<|AC h2<|AC h3<|AAp etS (fun _=>rfl) h4<|AN);exact (ih (v4++([v0.extract v5.toNat v6.toNat])) (inc v6) (inc v6)).mono fun y hy=>by cases y<;>exact KY r hy
    ·have r:fd (bO v0 v4 v5 v6) .normal (bO v0 v4 (inc v6) (inc v6)):=RP [.b true,.b false,.b false,.b false] (AC h0<|AC h1<|AC h1<|AC h2<|AN);exact (ih v4 (inc v6) (inc v6)).mono fun y hy=>by cases y<;>exact KY r hy
  ·exact KX (KZ (show fd (bO v0 v4 v5 v6) (.exit 0) (kz v4) from RP [.b false] (AC h0<|AN)) (by intro h;cases h))
noncomputable def nu (x0:ByteArray):Option ((List ByteArray)×Bool) :=
  cond (decide ((x0.size:Int)>(600:Int)))
   (some (([]:List ByteArray),false))
   ((cE x0 9223372036854775808 ([]) (0:Int) (0:Int)).bind fun y=>match y with
    | .ret w0_2 w0_3=>(some (w0_2,w0_3))
    | .x0 w0_4=>(cond (decide ((w0_4.length:Int)>(10:Int)))
     (some (([]:List ByteArray),false))
     (some (w0_4,true))))
theorem D7 (x0:ByteArray):Ans (nu x0) (fun r=>Does E 58 [.one (tS x0)] [(false,[.s .own () 1 (r.1.map etS)]),(false,[tB r.2])]):=by
 unfold nu
 apply K0<;>intro h0
 ·exact KX (DP Tryz.f58 [.b true] (AC h0<|AN))
 ·refine K1 (fun y hy => ?_)
  replace hy:=CA x0 9223372036854775808 ([]) (0:Int) (0:Int) y hy
  cases y with
  | ret w0_2 w0_3 =>
   have h1:=hy
   exact KX (DP Tryz.f58 [.b false,.lp .ret (jE w0_2 w0_3)] (AC h0<|AL h1<|AN))
  | x0 w0_4 =>
   have h1:=hy
   apply K0<;>intro h2
   ·exact KX (DP Tryz.f58 [.b false,.lp (.exit 0) (kz w0_4),.val (.int .i64 (w0_4.length:Int)),.b true] (AC h0<|AL h1<|ALn w0_4 etS<|AC h2<|AN))
   ·exact KX (DP Tryz.f58 [.b false,.lp (.exit 0) (kz w0_4),.val (.int .i64 (w0_4.length:Int)),.b false] (AC h0<|AL h1<|ALn w0_4 etS<|AC h2<|AN))
inductive ub where
 | x2 (v5:List ByteArray)
def il (v5 v28:List ByteArray) (v29 v30:Int):US:=stL 45 [(5,.one (.s .own () 1 (v5.map etS))),(28,.one (.s .own () 1 (v28.map etS))),(29,.one (tI v29)),(30,.one (tI v30))]
def km (zv5:List ByteArray):US:=stL 45 [(5,.one (.s .own () 1 (zv5.map etS)))]
abbrev oZ:US→Exit→US→Prop:=Round E 78 (aw Tryz.f78 1)
def BK (v5 v28:List ByteArray) (v29 v30:Int):ub→Prop
 | .x2 zv5=>Loops E 78 (aw Tryz.f78 1) (il v5 v28 v29 v30) (.exit 2) (km zv5)
noncomputable def ex  : List ByteArray→Nat→(List ByteArray)→Option ub
 | [],i,v5=>some (.x2 v5)
 | hd::rest,i,v5=>cond (!(hd.toList==ByteArray.empty.toList))
  (if (v5.length+([hd]).length)*16≤140737488355328∧v5.length+([hd]).length≤4611686018427387904 then ex rest (i+1) (v5++([hd])) else none)
  (ex rest (i+1) v5)
theorem BI (v28:List ByteArray) (rest:List ByteArray):∀ (i:Nat) (v5:List ByteArray),(v28).drop i=rest→v28.length≤9223372036854775807→Ans (ex rest i v5) (BK v5 v28 (v28.length:Int) (i:Int)):=by
 induction rest with
 | nil =>
  intro i v5 hE hl
  have hb:=bo hE
  unfold ex
  exact KX (KZ (show oZ (il v5 v28 (v28.length:Int) (i:Int)) (.exit 2) (km v5) from RP [.b false] (AC hb<|AN)) (by intro h;cases h))
 | cons hd rest ih =>
  intro i v5 hE hl
  have hb:=aY hE
  have hw:=aZ hE hl
  have hE2:=aH hE
  have hg:=bc hE
  unfold ex
  apply K0<;>intro h2
  ·refine K2 (fun h3 => ?_)
   exact (ih (i+1) (v5++([hd])) hE2 hl).mono fun y hy=>by have r:oZ (il v5 v28 (v28.length:Int) (i:Int)) .normal (il (v5++([hd])) v28 (v28.length:Int) (inc (i:Int))):=RP [.b true,.row (etS hd),.b true,.rows ((v5++([hd])).map etS)] (AC hb<|AG etS hg<|AC h2<|AAp etS (fun _=>rfl) h3<|AN);rw [hw] at r;cases y<;>exact KY r hy
  ·exact (ih (i+1) v5 hE2 hl).mono fun y hy=>by have r:oZ (il v5 v28 (v28.length:Int) (i:Int)) .normal (il v5 v28 (v28.length:Int) (inc (i:Int))):=RP [.b true,.row (etS hd),.b false] (AC hb<|AG etS hg<|AC h2<|AN);rw [hw] at r;cases y<;>exact KY r hy
inductive ua where
 | ret (v2:List ByteArray) (v3:Bool)
 | x0 
def gl (v0:ByteArray) (v4:Int):US:=stL 45 [(0,.one (tS v0)),(4,.one (tI v4))]
def jy (zv2:List ByteArray) (zv3:Bool):US:=stL 45 [(2,.one (.s .own () 1 (zv2.map etS))),(3,.one (tB zv3))]
def kk (v0:ByteArray):US:=stL 45 [(0,.one (tS v0))]
abbrev mi:US→Exit→US→Prop:=Round E 78 (aw Tryz.f78 0)
def BJ (v0:ByteArray) (v4:Int):ua→Prop
 | .ret zv2 zv3=>Loops E 78 (aw Tryz.f78 0) (gl v0 v4) .ret (jy zv2 zv3)
 | .x0=>Loops E 78 (aw Tryz.f78 0) (gl v0 v4) (.exit 0) (kk v0)
noncomputable def gm  : List Int→Nat→Option ua
 | [],i=>some (.x0)
 | hd::rest,i=>cond (decide (hd<(32:Int)))
  (some (.ret ([]) false))
  (cond (decide (hd>(126:Int)))
   (some (.ret ([]) false))
   (gm rest (i+1)))
theorem BH (v0:ByteArray) (rest:List Int):∀ (i:Nat) ,(bI v0).drop i=rest→v0.size≤9223372036854775807→Ans (gm rest i) (BJ v0 (i:Int)):=by
 induction rest with
 | nil =>
  intro i hE hl
  have hb:=oV hE
  unfold gm
  exact KX (KZ (show mi (gl v0 (i:Int)) (.exit 0) (kk v0) from RP [.b false] (AC hb<|AN)) (by intro h;cases h))
 | cons hd rest ih =>
  intro i hE hl
  have hb:=nE hE
  have hw:=nF hE hl
  have hE2:=aH hE
  have hp:=qP hE
  obtain rfl:=qO hE
  unfold gm
  apply K0<;>intro h2
  ·exact KX (KZ (show mi (gl v0 (i:Int)) .ret (jy ([]) false) from RP [.b true,.b true] (AC hb<|AC hp<|AC h2<|AN)) (by intro h;cases h))
  ·apply K0<;>intro h3
   ·exact KX (KZ (show mi (gl v0 (i:Int)) .ret (jy ([]) false) from RP [.b true,.b false,.b true] (AC hb<|AC hp<|AC h2<|AC hp<|AC h3<|AN)) (by intro h;cases h))
   ·exact (ih (i+1) hE2 hl).mono fun y hy=>by have r:mi (gl v0 (i:Int)) .normal (gl v0 (inc (i:Int))):=RP [.b true,.b false,.b false] (AC hb<|AC hp<|AC h2<|AC hp<|AC h3<|AN);rw [hw] at r;cases y<;>exact KY r hy
noncomputable def nl (x0:ByteArray):Option ((List ByteArray)×Bool) :=
  cond (decide ((x0.size:Int)>(600:Int)))
   (some (([]:List ByteArray),false))
   (if x0.size≤9223372036854775807 then (gm (bI x0) 0).bind fun y=>match y with
    | .ret w0_2 w0_3=>(some (w0_2,w0_3))
    | .x0=>(if x0.size<4294967281 then if 1≤(⟨#[32]⟩:ByteArray).size then if (dv x0 (⟨#[32]⟩:ByteArray)).length≤9223372036854775807 then (ex (dv x0 (⟨#[32]⟩:ByteArray)) 0 ([])).bind fun y=>match y with
     | .x2 w1_5=>(cond (decide ((w1_5.length:Int)>(10:Int)))
      (some (([]:List ByteArray),false))
      (some (w1_5,true))) else none else none else none) else none)
theorem DB (x0:ByteArray):Ans (nl x0) (fun r=>Does E 78 [.one (tS x0)] [(false,[.s .own () 1 (r.1.map etS)]),(false,[tB r.2])]):=by
 unfold nl
 apply K0<;>intro h0
 ·exact KX (DP Tryz.f78 [.b true] (AC h0<|AN))
 ·refine K2 (fun hl2 => ?_)
  refine K1 (fun y hy => ?_)
  replace hy:=BH x0 (bI x0) 0 rfl hl2 y hy
  cases y with
  | ret w0_2 w0_3 =>
   have h1:=hy
   exact KX (DP Tryz.f78 [.b false,.lp .ret (jy w0_2 w0_3)] (AC h0<|AL h1<|AN))
  | x0 =>
   have h1:=hy
   refine K2 (fun h2 => ?_)
   refine K2 (fun h3 => ?_)
   refine K2 (fun hl3 => ?_)
   refine K1 (fun y hy => ?_)
   replace hy:=BI (dv x0 (⟨#[32]⟩:ByteArray)) (dv x0 (⟨#[32]⟩:ByteArray)) 0 ([]) rfl hl3 y hy
   cases y with
   | x2 w1_5 =>
    have h4:=hy
    apply K0<;>intro h5
    ·exact KX (DP Tryz.f78 [.b false,.lp (.exit 0) (kk x0),.ret [(false,[.s .own () 1 ((dv x0 (⟨#[32]⟩:ByteArray)).map etS)])],.val (.int .i64 ((dv x0 (⟨#[32]⟩:ByteArray)).length:Int)),.lp (.exit 2) (km w1_5),.val (.int .i64 (w1_5.length:Int)),.b true] (AC h0<|AL h1<|AD (jw x0 (⟨#[32]⟩:ByteArray) h2 h3)<|ALn (dv x0 (⟨#[32]⟩:ByteArray)) etS<|AL h4<|ALn w1_5 etS<|AC h5<|AN))
    ·exact KX (DP Tryz.f78 [.b false,.lp (.exit 0) (kk x0),.ret [(false,[.s .own () 1 ((dv x0 (⟨#[32]⟩:ByteArray)).map etS)])],.val (.int .i64 ((dv x0 (⟨#[32]⟩:ByteArray)).length:Int)),.lp (.exit 2) (km w1_5),.val (.int .i64 (w1_5.length:Int)),.b false] (AC h0<|AL h1<|AD (jw x0 (⟨#[32]⟩:ByteArray) h2 h3)<|ALn (dv x0 (⟨#[32]⟩:ByteArray)) etS<|AL h4<|ALn w1_5 etS<|AC h5<|AN))
def okB (b:UInt8):Bool:=decide (32≤b.toNat)&&decide (b.toNat≤126)
theorem Ha {b:UInt8} (h:b.toNat<32):okB b=false:=by unfold okB;rw [decide_eq_false (by omega)];rfl
theorem G8 {b:UInt8} (h:126<b.toNat):okB b=false:=by unfold okB;rw [decide_eq_false (by omega:¬ b.toNat≤126),Bool.and_false]
theorem G9 {b:UInt8} (h:¬ b.toNat<32) (h2:¬ 126<b.toNat):okB b=true:=by unfold okB;rw [decide_eq_true (by omega),decide_eq_true (by omega)];rfl
def aD (x:ByteArray):Bool := !(x.toList==ByteArray.empty.toList)
noncomputable def aG (s:ByteArray):List ByteArray×Bool :=
 if 600<s.size then ([],false) else if (tx s).all okB=true then (if 10<(((bE 32 (tx s)).map ofTx).filter aD).length then ([],false) else (((bE 32 (tx s)).map ofTx).filter aD,true)) else ([],false)
theorem Bz (l:List UInt8):aD (ofTx l) = !l.isEmpty:=by
 unfold aD
 rw [jb]
 have:tx ByteArray.empty=[]:=rfl
 rw [this,rt]
 cases l<;>rfl
theorem xL (s:ByteArray) (c:UInt8):dv s ⟨#[c]⟩=(bE c (tx s)).map ofTx:=Ei s c
theorem oD (s:ByteArray):bI s=(tx s).map fun b=>(b.toNat:Int):=rfl
theorem Bd {s:ByteArray} {i:Nat} {b:UInt8} (h:(tx s)[i]?=some b):fJ s (i:Int)=(b.toNat:Int):=by
 have hi:i<s.size:=by
  rw [cM]
  rcases Nat.lt_or_ge i (tx s).length with g | g
  ·exact g
  ·rw [List.getElem?_eq_none g] at h;cases h
 have:=qy s i hi
 rw [oD,List.getElem?_map,h] at this
 exact (Option.some.inj this).symm
theorem Hf:∀ (l:List UInt8) (i:Nat),gm (l.map fun b=>(b.toNat:Int)) i=some (if l.all okB=true then .x0 else .ret [] false)
 | [],i=>rfl
 | b::l,i=>by
  rw [List.map_cons]
  unfold gm
  rw [Hf l (i+1),List.all_cons]
  by_cases h:b.toNat<32
  ·rw [decide_eq_true (by omega),Ha h];rfl
  ·rw [decide_eq_false (by omega),cond_false]
   by_cases h':126<b.toNat
   ·rw [decide_eq_true (by omega),G8 h'];rfl
   ·rw [decide_eq_false (by omega),G9 h h'];rfl
theorem Ck:∀ (l:List ByteArray) (i:Nat) (v:List ByteArray),v.length+l.length≤4000000→ex l i v=some (.x2 (v++l.filter aD))
 | [],i,v,_=>by unfold ex;simp
 | x::l,i,v,h=>by
  simp only [List.length_cons] at h
  unfold ex
  have e:(!(x.toList==ByteArray.empty.toList))=aD x:=rfl
  rw [e]
  cases q:aD x with
  | true =>
   rw [cond_true,if_pos (by simp;omega),Ck l (i+1) _ (by simp;omega),List.filter_cons,q];simp
  | false =>
   rw [cond_false,Ck l (i+1) v (by omega),List.filter_cons,q];simp
theorem Hg (s:ByteArray):nl s=some (aG s):=by
 unfold nl aG
 by_cases h:600<s.size
 ·rw [decide_eq_true (by omega),if_pos h];rfl
 ·have hl:=vX 32 (tx s)
  rw [← cM] at hl
  rw [decide_eq_false (by omega),if_neg h,cond_false,if_pos (by omega),oD,Hf]
  by_cases q:(tx s).all okB=true
  ·rw [if_pos q,if_pos q,Option.bind_some]
   simp only
   rw [if_pos (by omega),if_pos (by decide),xL,if_pos (by simp;omega),Ck _ _ _ (by simp;omega),Option.bind_some]
   simp only [List.nil_append]
   by_cases r:10<(((bE 32 (tx s)).map ofTx).filter aD).length
   ·rw [decide_eq_true (by omega),if_pos r];rfl
   ·rw [decide_eq_false (by omega),if_neg r];rfl
  ·rw [if_neg q,if_neg q];rfl
theorem BA {l:List UInt8} {i:Nat} (h:i<l.length):∃ b r,l.drop i=b::r∧l[i]?=some b∧l.drop (i+1)=r:=by
 refine ⟨l[i],l.drop (i+1),List.drop_eq_getElem_cons h,List.getElem?_eq_getElem h,rfl⟩
theorem Hi (s:ByteArray) (hs:s.size≤2000000):∀ (m i a:Nat) (v:List ByteArray) (n:Nat),i+m=(tx s).length→m+1<n→a≤i→v.length+m≤2000000 →
  cE s n v (a:Int) (i:Int)=some (if ((tx s).drop i).all okB=true then .x0 (v++((gy (seg (tx s) a i) (bE 32 ((tx s).drop i))).map ofTx).filter aD) else .ret [] false)
 | m,i,a,v,n,hi,hn,ha,hv=>by
  obtain ⟨n,rfl⟩:∃ k,n=k+2:=⟨n-2,by omega⟩
  have hsz:=cM s
  unfold cE
  rw [decide_eq_true (by omega:(i:Int)≤(s.size:Int)),cond_true]
  have hinc:inc (i:Int)=((i+1:Nat):Int):=by rw [fa _ (by omega) (by omega)];omega
  cases m with
  | zero =>
   have hd:(tx s).drop i=[]:=List.drop_eq_nil_of_le (by omega)
   have stop:∀ w b,cE s (n+1) w b ((i+1:Nat):Int)=some (.x0 w):=fun w b=>by
    unfold cE
    rw [decide_eq_false (by omega)];rfl
   have hc:gy (seg (tx s) a i) (bE 32 ([]:List UInt8))=[seg (tx s) a i]:=by simp [bE,gy]
   have hf:([seg (tx s) a i].map ofTx).filter aD=if a=i then [] else [s.extract a i]:=by
    rw [List.map_cons,List.map_nil,List.filter_cons,Bz,EJ ha (by omega),kU]
    by_cases q:a=i
    ·rw [if_pos q,decide_eq_true q];rfl
    ·rw [if_neg q,decide_eq_false q];rfl
   rw [decide_eq_false (by omega:¬ (i:Int)<(s.size:Int)),cond_false,hinc,hd,hc,hf,List.all_nil,if_pos rfl]
   by_cases q:a=i
   ·rw [decide_eq_false (by omega),cond_false,stop,if_pos q,List.append_nil]
   ·rw [decide_eq_true (by omega),cond_true,if_pos (by omega),if_pos (by simp;omega),stop,if_neg q];rfl
  | succ m =>
   obtain ⟨b,r,hd,hg,hr⟩:=BA (l:=tx s) (i:=i) (by omega)
   have hb:=Bd hg
   have ih:=fun a' v' (h1:a'≤i+1) (h2:v'.length+m≤2000000)=>Hi s hs m (i+1) a' v' (n+1) (by omega) (by omega) h1 h2
   rw [hr] at ih
   rw [decide_eq_true (by omega:(i:Int)<(s.size:Int)),cond_true,if_pos (by omega),hb,hinc,hd,List.all_cons]
   have bl:=b.toNat_lt
   by_cases h:b.toNat<32
   ·rw [decide_eq_true (by omega:((b.toNat:Int)<32)),cond_true,Ha h];rfl
   ·rw [decide_eq_false (by omega:¬ ((b.toNat:Int)<32)),cond_false]
    by_cases h':126<b.toNat
    ·rw [decide_eq_true (by omega:((b.toNat:Int)>126)),cond_true,G8 h'];rfl
    ·rw [decide_eq_false (by omega:¬ ((b.toNat:Int)>126)),cond_false,G9 h h',Bool.true_and]
     by_cases q:b=32
     ·subst q
      have e:(((32:UInt8).toNat:Int) != 32)=false:=by decide
      rw [e,cond_false,oS]
      have hgl:gy (seg (tx s) a i) ([]::bE 32 r)=seg (tx s) a i::bE 32 r:=by simp [gy]
      rw [hgl,List.map_cons,List.filter_cons,Bz,EJ ha (by omega)]
      have hz:gy (seg (tx s) (i+1) (i+1)) (bE 32 r)=bE 32 r:=by rw [pu];exact rQ _ (gA _ _)
      by_cases q:a=i
      ·have:=ih (i+1) v (by omega) (by omega)
       rw [hz] at this
       rw [decide_eq_false (by omega),cond_false,this,decide_eq_true q];rfl
      ·have:=ih (i+1) (v++[s.extract a i]) (by omega) (by simp;omega)
       rw [hz] at this
       rw [decide_eq_true (by omega),cond_true,if_pos (by omega),if_pos (by simp;omega)]
       rw [show ((a:Int).toNat)=a by omega,show ((i:Int).toNat)=i by omega,this,decide_eq_false q,kU]
       simp
     ·have e:((b.toNat:Int) != 32)=true:=by
       rw [bne_iff_ne]
       intro h
       exact q (UInt8.toNat_inj.1 (by show b.toNat=32;omega))
      rw [e,cond_true,ih a v (by omega) (by omega),lM q,zm _ _ _ (gA _ _), ← CO ha hg]
theorem Hh (s:ByteArray):nu s=some (aG s):=by
 unfold nu aG
 by_cases h:600<s.size
 ·rw [decide_eq_true (by omega),if_pos h];rfl
 ·have hz:gy (seg (tx s) 0 0) (bE 32 (tx s))=bE 32 (tx s):=by rw [pu];exact rQ _ (gA _ _)
  have e:=Hi s (by omega) (tx s).length 0 0 [] 9223372036854775808 (by omega) (by rw [← cM];omega) (by omega) (by rw [← cM];simp;omega)
  rw [List.drop_zero,hz,List.nil_append] at e
  rw [decide_eq_false (by omega),if_neg h,cond_false]
  refine (congrArg (Option.bind · _) e).trans ?_
  by_cases q:(tx s).all okB=true
  ·rw [if_pos q,if_pos q,Option.bind_some]
   simp only
   by_cases r:10<(((bE 32 (tx s)).map ofTx).filter aD).length
   ·rw [decide_eq_true (by omega),if_pos r];rfl
   ·rw [decide_eq_false (by omega),if_neg r];rfl
  ·rw [if_neg q,if_neg q];rfl
theorem qr {s p:ByteArray} (h:p∈(aG s).1):p.size≤600:=by
 unfold aG at h
 split at h
 ·cases h
 ·rename_i h0
  split at h
  ·split at h
   ·cases h
   ·obtain ⟨x,hx,rfl⟩:=List.mem_map.1 (List.mem_filter.1 h).1
    have:=vY _ _ x hx
    rw [nH]
    rw [← cM] at this
    omega
  ·cases h
theorem C9 (x0:ByteArray):Does E 58 [.one (tS x0)] [(false,[.s .own () 1 (((aG x0).1).map etS)]),(false,[tB ((aG x0).2)])]:=by
 exact D7 x0 _ (Hh x0)
theorem k7 (x0:ByteArray) {bb:Bool} (hbb:(aG x0).2=bb):Does E 58 [.one (tS x0)] [(false,[.s .own () 1 (((aG x0).1).map etS)]),(false,[tB bb])]:=by rw [← hbb];exact C9 x0
theorem C5 (x0:ByteArray):Does E 78 [.one (tS x0)] [(false,[.s .own () 1 (((aG x0).1).map etS)]),(false,[tB ((aG x0).2)])]:=by
 exact DB x0 _ (Hg x0)
theorem k6 (x0:ByteArray) {bb:Bool} (hbb:(aG x0).2=bb):Does E 78 [.one (tS x0)] [(false,[.s .own () 1 (((aG x0).1).map etS)]),(false,[tB bb])]:=by rw [← hbb];exact C5 x0
inductive po where
 | ret (v2:Int) (v3:Bool)
 | x0 (v4:Int)
def dW (v0:ByteArray) (v4 v5:Int):US:=stL 42 [(0,.one (tS v0)),(4,.one (tI v4)),(5,.one (tI v5))]
def gw (zv2:Int) (zv3:Bool):US:=stL 42 [(2,.one (tI zv2)),(3,.one (tB zv3))]
def fe (v0:ByteArray) (zv4:Int):US:=stL 42 [(0,.one (tS v0)),(4,.one (tI zv4))]
abbrev iX:US→Exit→US→Prop:=Round E 87 (aw Tryz.f87 0)
def wx (v0:ByteArray) (v4 v5:Int):po→Prop
 | .ret zv2 zv3=>Loops E 87 (aw Tryz.f87 0) (dW v0 v4 v5) .ret (gw zv2 zv3)
 | .x0 zv4=>Loops E 87 (aw Tryz.f87 0) (dW v0 v4 v5) (.exit 0) (fe v0 zv4)
noncomputable def dX (v0:ByteArray):List Int→Nat→Int→Option po
 | [],i,v4=>some (.x0 v4)
 | hd::rest,i,v4=>cond (decide (hd<(48:Int)))
  (some (.ret (0:Int) false))
  (cond (decide (hd>(57:Int)))
   (some (.ret (0:Int) false))
   (dX v0 rest (i+1) (IntKind.wrap .i64 ((IntKind.wrap .i64 ((IntKind.wrap .i64 ((10:Int)*v4))+(IntKind.wrap .i64 hd)))-(48:Int)))))
theorem ww (v0:ByteArray) (rest:List Int):∀ (i:Nat) (v4:Int),(bI v0).drop i=rest→v0.size≤9223372036854775807→Ans (dX v0 rest i v4) (wx v0 v4 (i:Int)):=by
 induction rest with
 | nil =>
  intro i v4 hE hl
  have hb:=oV hE
  unfold dX
  exact KX (KZ (show iX (dW v0 v4 (i:Int)) (.exit 0) (fe v0 v4) from RP [.b false] (AC hb<|AN)) (by intro h;cases h))
 | cons hd rest ih =>
  intro i v4 hE hl
  have hb:=nE hE
  have hw:=nF hE hl
  have hE2:=aH hE
  have hp:=qP hE
  obtain rfl:=qO hE
  unfold dX
  apply K0<;>intro h2
  ·exact KX (KZ (show iX (dW v0 v4 (i:Int)) .ret (gw (0:Int) false) from RP [.b true,.b true] (AC hb<|AC hp<|AC h2<|AN)) (by intro h;cases h))
  ·apply K0<;>intro h3
   ·exact KX (KZ (show iX (dW v0 v4 (i:Int)) .ret (gw (0:Int) false) from RP [.b true,.b false,.b true] (AC hb<|AC hp<|AC h2<|AC hp<|AC h3<|AN)) (by intro h;cases h))
   ·exact (ih (i+1) (IntKind.wrap .i64 ((IntKind.wrap .i64 ((IntKind.wrap .i64 ((10:Int)*v4))+(IntKind.wrap .i64 (fJ v0 (i:Int)))))-(48:Int))) hE2 hl).mono fun y hy=>by have r:iX (dW v0 v4 (i:Int)) .normal (dW v0 (IntKind.wrap .i64 ((IntKind.wrap .i64 ((IntKind.wrap .i64 ((10:Int)*v4))+(IntKind.wrap .i64 (fJ v0 (i:Int)))))-(48:Int))) (inc (i:Int))):=RP [.b true,.b false,.b false] (AC hb<|AC hp<|AC h2<|AC hp<|AC h3<|AC hp<|AN);rw [hw] at r;cases y<;>exact KY r hy
noncomputable def jF (x0:ByteArray):Option (Int×Bool) :=
  cond (decide ((x0.size:Int)>(10:Int)))
   (some ((0:Int),false))
   (if x0.size≤9223372036854775807 then (dX x0 (bI x0) 0 (0:Int)).bind fun y=>match y with
    | .ret w0_2 w0_3=>(some (w0_2,w0_3))
    | .x0 w0_4=>(cond (decide (w0_4>(1000000000:Int)))
     (some ((0:Int),false))
     (if -9223372036854775808≤w0_4∧w0_4≤9223372036854775807 then cond (!((be w0_4).toList==x0.toList))
      (some ((0:Int),false))
      (some (w0_4,true)) else none)) else none)
theorem xI (x0:ByteArray):Ans (jF x0) (fun r=>Does E 87 [.one (tS x0)] [(false,[tI r.1]),(false,[tB r.2])]):=by
 unfold jF
 apply K0<;>intro h0
 ·exact KX (DP Tryz.f87 [.b true] (AC h0<|AN))
 ·refine K2 (fun hl2 => ?_)
  refine K1 (fun y hy => ?_)
  replace hy:=ww x0 (bI x0) 0 (0:Int) rfl hl2 y hy
  cases y with
  | ret w0_2 w0_3 =>
   have h1:=hy
   exact KX (DP Tryz.f87 [.b false,.lp .ret (gw w0_2 w0_3)] (AC h0<|AL h1<|AN))
  | x0 w0_4 =>
   have h1:=hy
   apply K0<;>intro h2
   ·exact KX (DP Tryz.f87 [.b false,.lp (.exit 0) (fe x0 w0_4),.b true] (AC h0<|AL h1<|AC h2<|AN))
   ·refine K2 (fun h3 => ?_)
    apply K0<;>intro h4
    ·exact KX (DP Tryz.f87 [.b false,.lp (.exit 0) (fe x0 w0_4),.b false,.ret [(false,[tS (be w0_4)])],.b true] (AC h0<|AL h1<|AC h2<|AD (ni w0_4 h3)<|AC h4<|AN))
    ·exact KX (DP Tryz.f87 [.b false,.lp (.exit 0) (fe x0 w0_4),.b false,.ret [(false,[tS (be w0_4)])],.b false] (AC h0<|AL h1<|AC h2<|AD (ni w0_4 h3)<|AC h4<|AN))
inductive o5 where
 | ret (v2:Int) (v3:Bool)
 | x0 (v4:Int)
def dS (v0:ByteArray) (v4 v5:Int):US:=stL 47 [(0,.one (tS v0)),(4,.one (tI v4)),(5,.one (tI v5))]
def gt (zv2:Int) (zv3:Bool):US:=stL 47 [(2,.one (tI zv2)),(3,.one (tB zv3))]
def e9 (v0:ByteArray) (zv4:Int):US:=stL 47 [(0,.one (tS v0)),(4,.one (tI zv4))]
abbrev iP:US→Exit→US→Prop:=Round E 102 (aw Tryz.f102 0)
def wh (v0:ByteArray) (v4 v5:Int):o5→Prop
 | .ret zv2 zv3=>Loops E 102 (aw Tryz.f102 0) (dS v0 v4 v5) .ret (gt zv2 zv3)
 | .x0 zv4=>Loops E 102 (aw Tryz.f102 0) (dS v0 v4 v5) (.exit 0) (e9 v0 zv4)
noncomputable def dT (v0:ByteArray):List Int→Nat→Int→Option o5
 | [],i,v4=>some (.x0 v4)
 | hd::rest,i,v4=>cond (decide (hd<(48:Int)))
  (some (.ret (0:Int) false))
  (cond (decide (hd>(57:Int)))
   (some (.ret (0:Int) false))
   (dT v0 rest (i+1) (IntKind.wrap .i64 ((IntKind.wrap .i64 (v4*(10:Int)))+(IntKind.wrap .i64 (IntKind.wrap .u8 (hd-(48:Int))))))))
theorem wg (v0:ByteArray) (rest:List Int):∀ (i:Nat) (v4:Int),(bI v0).drop i=rest→v0.size≤9223372036854775807→Ans (dT v0 rest i v4) (wh v0 v4 (i:Int)):=by
 induction rest with
 | nil =>
  intro i v4 hE hl
  have hb:=oV hE
  unfold dT
  exact KX (KZ (show iP (dS v0 v4 (i:Int)) (.exit 0) (e9 v0 v4) from RP [.b false] (AC hb<|AN)) (by intro h;cases h))
 | cons hd rest ih =>
  intro i v4 hE hl
  have hb:=nE hE
  have hw:=nF hE hl
  have hE2:=aH hE
  have hp:=qP hE
  obtain rfl:=qO hE
  unfold dT
  apply K0<;>intro h2
  ·exact KX (KZ (show iP (dS v0 v4 (i:Int)) .ret (gt (0:Int) false) from RP [.b true,.b true] (AC hb<|AC hp<|AC h2<|AN)) (by intro h;cases h))
  ·apply K0<;>intro h3
   ·exact KX (KZ (show iP (dS v0 v4 (i:Int)) .ret (gt (0:Int) false) from RP [.b true,.b false,.b true] (AC hb<|AC hp<|AC h2<|AC hp<|AC h3<|AN)) (by intro h;cases h))
   ·exact (ih (i+1) (IntKind.wrap .i64 ((IntKind.wrap .i64 (v4*(10:Int)))+(IntKind.wrap .i64 (IntKind.wrap .u8 ((fJ v0 (i:Int))-(48:Int)))))) hE2 hl).mono fun y hy=>by have r:iP (dS v0 v4 (i:Int)) .normal (dS v0 (IntKind.wrap .i64 ((IntKind.wrap .i64 (v4*(10:Int)))+(IntKind.wrap .i64 (IntKind.wrap .u8 ((fJ v0 (i:Int))-(48:Int)))))) (inc (i:Int))):=RP [.b true,.b false,.b false] (AC hb<|AC hp<|AC h2<|AC hp<|AC h3<|AC hp<|AN);rw [hw] at r;cases y<;>exact KY r hy
noncomputable def jz (x0:ByteArray):Option (Int×Bool) :=
  cond ((x0.size:Int)==(0:Int))
   (some ((0:Int),false))
   (cond (decide ((x0.size:Int)>(10:Int)))
    (some ((0:Int),false))
    (if x0.size≤9223372036854775807 then (dT x0 (bI x0) 0 (0:Int)).bind fun y=>match y with
     | .ret w0_2 w0_3=>(some (w0_2,w0_3))
     | .x0 w0_4=>(cond (decide (w0_4>(1000000000:Int)))
      (some ((0:Int),false))
      (if -9223372036854775808≤w0_4∧w0_4≤9223372036854775807 then cond (!((be w0_4).toList==x0.toList))
       (some ((0:Int),false))
       (some (w0_4,true)) else none)) else none))
theorem xi (x0:ByteArray):Ans (jz x0) (fun r=>Does E 102 [.one (tS x0)] [(false,[tI r.1]),(false,[tB r.2])]):=by
 unfold jz
 apply K0<;>intro h0
 ·exact KX (DP Tryz.f102 [.b true] (AC h0<|AN))
 ·apply K0<;>intro h1
  ·exact KX (DP Tryz.f102 [.b false,.b true] (AC h0<|AC h1<|AN))
  ·refine K2 (fun hl3 => ?_)
   refine K1 (fun y hy => ?_)
   replace hy:=wg x0 (bI x0) 0 (0:Int) rfl hl3 y hy
   cases y with
   | ret w0_2 w0_3 =>
    have h2:=hy
    exact KX (DP Tryz.f102 [.b false,.b false,.lp .ret (gt w0_2 w0_3)] (AC h0<|AC h1<|AL h2<|AN))
   | x0 w0_4 =>
    have h2:=hy
    apply K0<;>intro h3
    ·exact KX (DP Tryz.f102 [.b false,.b false,.lp (.exit 0) (e9 x0 w0_4),.b true] (AC h0<|AC h1<|AL h2<|AC h3<|AN))
    ·refine K2 (fun h4 => ?_)
     apply K0<;>intro h5
     ·exact KX (DP Tryz.f102 [.b false,.b false,.lp (.exit 0) (e9 x0 w0_4),.b false,.ret [(false,[tS (be w0_4)])],.b true] (AC h0<|AC h1<|AL h2<|AC h3<|AD (qa w0_4 h4)<|AC h5<|AN))
     ·exact KX (DP Tryz.f102 [.b false,.b false,.lp (.exit 0) (e9 x0 w0_4),.b false,.ret [(false,[tS (be w0_4)])],.b false] (AC h0<|AC h1<|AL h2<|AC h3<|AD (qa w0_4 h4)<|AC h5<|AN))
def kv:List UInt8→Int→Option Int
 | [],v=>some v
 | b::l,v=>if 48≤b.toNat∧b.toNat≤57 then kv l (10*v+((b.toNat:Int)-48)) else none
noncomputable def ac (s:ByteArray):Int×Bool :=
 if 10<s.size then (0,false) else match kv (tx s) 0 with
  | none=>(0,false)
  | some n=>if 1000000000<n then (0,false) else if tx (be n)=tx s then (n,true) else (0,false)
theorem vH:∀ (l:List UInt8) (v:Int) (k:Nat) (r:Int),0≤v→v<10 ^ k→kv l v=some r→0≤r∧r<10 ^ (k+l.length)
 | [],v,k,r,h0,h1,h=>by cases h;exact ⟨h0,h1⟩
 | b::l,v,k,r,h0,h1,h=>by
  unfold kv at h
  split at h
  ·rename_i hb
   have:=vH l (10*v+((b.toNat:Int)-48)) (k+1) r (by omega) (by rw [Int.pow_succ];omega) h
   rw [List.length_cons,show k+(l.length+1)=k+1+l.length by omega]
   exact this
  ·cases h
theorem Cp {k n:Nat} (h:k≤n):(10:Int) ^ k≤10 ^ n:=by
 have:=Nat.pow_le_pow_right (n:=10) (by omega) h
 have e:∀ m:Nat,(10:Int) ^ m=((10 ^ m:Nat):Int):=fun m=>by simp
 rw [e,e];omega
theorem Cr (s:ByteArray):∀ (l:List UInt8) (i:Nat) (v:Int) (k:Nat),0≤v→v<10 ^ k→k+l.length≤10 →
  dX s (l.map fun b=>(b.toNat:Int)) i v=some (match kv l v with | some r => .x0 r | none => .ret 0 false) ∧
  dT s (l.map fun b=>(b.toNat:Int)) i v=some (match kv l v with | some r => .x0 r | none => .ret 0 false)
 | [],i,v,k,_,_,_=>⟨rfl,rfl⟩
 | b::l,i,v,k,h0,h1,hk=>by
  have hp:=Cp (show k≤10 by omega)
  have e10:(10:Int) ^ 10=10000000000:=by decide
  rw [List.map_cons]
  unfold dX dT kv
  have bl:=b.toNat_lt
  by_cases h:b.toNat<48
  ·rw [decide_eq_true (by omega:((b.toNat:Int)<48)),if_neg (by omega)]
   exact ⟨rfl,rfl⟩
  ·rw [decide_eq_false (by omega:¬ ((b.toNat:Int)<48)),cond_false,cond_false]
   by_cases h':57<b.toNat
   ·rw [decide_eq_true (by omega:((b.toNat:Int)>57)),if_neg (by omega)]
    exact ⟨rfl,rfl⟩
   ·rw [decide_eq_false (by omega:¬ ((b.toNat:Int)>57)),if_pos (by omega),cond_false,cond_false]
    have w1:IntKind.wrap .i64 (IntKind.wrap .i64 (IntKind.wrap .i64 (10*v)+IntKind.wrap .i64 (b.toNat:Int))-48)=10*v+((b.toNat:Int)-48):=by
     rw [du (10*v) (by omega) (by omega),du (b.toNat:Int) (by omega) (by omega),du (10*v+(b.toNat:Int)) (by omega) (by omega),du _ (by omega) (by omega)];omega
    have w2:IntKind.wrap .i64 (IntKind.wrap .i64 (v*10)+IntKind.wrap .i64 (IntKind.wrap .u8 ((b.toNat:Int)-48)))=10*v+((b.toNat:Int)-48):=by
     rw [IK (by omega) (by omega),du (v*10) (by omega) (by omega),du ((b.toNat:Int)-48) (by omega) (by omega),du _ (by omega) (by omega)];omega
    rw [w1,w2]
    simp only [List.length_cons] at hk
    exact Cr s l (i+1) _ (k+1) (by omega) (by rw [Int.pow_succ];omega) (by omega)
theorem qt {s:ByteArray} (h:¬ 10<s.size) {r:Int} (hr:kv (tx s) 0=some r):0≤r∧r<10000000000:=by
 have:=vH (tx s) 0 0 r (by omega) (by decide) hr
 have hp:=Cp (show 0+(tx s).length≤10 by rw [← cM];omega)
 have e10:(10:Int) ^ 10=10000000000:=by decide
 omega
theorem Hm (s:ByteArray):jF s=some (ac s):=by
 unfold jF ac
 by_cases h:10<s.size
 ·rw [decide_eq_true (by omega),if_pos h];rfl
 ·obtain ⟨e, -⟩:=Cr s (tx s) 0 0 0 (by omega) (by decide) (by rw [← cM];omega)
  rw [decide_eq_false (by omega),if_neg h,cond_false,if_pos (by omega),oD,e]
  cases q:kv (tx s) 0 with
  | none=>rfl
  | some n =>
   obtain ⟨n0,n1⟩:=qt h q
   simp only [Option.bind_some]
   by_cases z:1000000000<n
   ·rw [decide_eq_true (by omega),if_pos z];rfl
   ·rw [decide_eq_false (by omega),if_neg z,cond_false,if_pos (by omega),jb]
    by_cases y:tx (be n)=tx s
    ·rw [decide_eq_true y,if_pos y];rfl
    ·rw [decide_eq_false y,if_neg y];rfl
theorem Hl (s:ByteArray):jz s=some (ac s):=by
 unfold jz ac
 by_cases hz:s.size=0
 ·have ht:tx s=[]:=List.eq_nil_of_length_eq_zero (by rw [← cM];exact hz)
  have e1:((s.size:Int)==0)=true:=by rw [hz];rfl
  rw [e1,cond_true,if_neg (by omega),ht]
  unfold kv
  simp only
  have:¬ tx (be 0)=[]:=by
   unfold be Lib.itoa
   rw [if_neg (by omega),Lib.decDigits,dif_pos (by simp)]
   simp [tx]
  rw [if_neg (by omega),if_neg this]
 have e1:((s.size:Int)==0)=false:=by rw [beq_eq_false_iff_ne];omega
 rw [e1,cond_false]
 by_cases h:10<s.size
 ·rw [decide_eq_true (by omega),if_pos h];rfl
 ·obtain ⟨-,e⟩:=Cr s (tx s) 0 0 0 (by omega) (by decide) (by rw [← cM];omega)
  rw [decide_eq_false (by omega),if_neg h,cond_false,if_pos (by omega),oD,e]
  cases q:kv (tx s) 0 with
  | none=>rfl
  | some n =>
   obtain ⟨n0,n1⟩:=qt h q
   simp only [Option.bind_some]
   by_cases z:1000000000<n
   ·rw [decide_eq_true (by omega),if_pos z];rfl
   ·rw [decide_eq_false (by omega),if_neg z,cond_false,if_pos (by omega),jb]
    by_cases y:tx (be n)=tx s
    ·rw [decide_eq_true y,if_pos y];rfl
    ·rw [decide_eq_false y,if_neg y];rfl
theorem FT (s:ByteArray):0≤(ac s).1∧(ac s).1≤1000000000:=by
 unfold ac
 split
 ·exact ⟨Int.le_refl _,by decide⟩
 ·rename_i h
  split
  ·exact ⟨Int.le_refl _,by decide⟩
  ·rename_i n q
   obtain ⟨n0,n1⟩:=qt h q
   split
   ·exact ⟨Int.le_refl _,by decide⟩
   ·split
    ·exact ⟨n0,by show n≤_;omega⟩
    ·exact ⟨Int.le_refl _,by decide⟩
theorem zy:∀ {l:List UInt8} {b:UInt8} (v:Int),b∈l→¬ (48≤b.toNat∧b.toNat≤57)→kv l v=none
 | x::l,b,v,h,hb=>by
  unfold kv
  rcases List.mem_cons.1 h with rfl | h
  ·rw [if_neg hb]
  ·split
   ·exact zy _ h hb
   ·rfl
theorem vG {s:ByteArray} {b:UInt8} (h:b∈tx s) (hb:¬ (48≤b.toNat∧b.toNat≤57)):ac s=(0,false):=by
 unfold ac
 rw [zy 0 h hb]
 split<;>rfl
theorem l4 (x0:ByteArray):Does E 87 [.one (tS x0)] [(false,[tI ((ac x0).1)]),(false,[tB ((ac x0).2)])]:=by
 exact xI x0 _ (Hm x0)
theorem av (x0:ByteArray) {bb:Bool} (hbb:(ac x0).2=bb):Does E 87 [.one (tS x0)] [(false,[tI ((ac x0).1)]),(false,[tB bb])]:=by rw [← hbb];exact l4 x0
theorem pD (x0:ByteArray):Does E 102 [.one (tS x0)] [(false,[tI ((ac x0).1)]),(false,[tB ((ac x0).2)])]:=by
 exact xi x0 _ (Hl x0)
theorem bd (x0:ByteArray) {bb:Bool} (hbb:(ac x0).2=bb):Does E 102 [.one (tS x0)] [(false,[tI ((ac x0).1)]),(false,[tB bb])]:=by rw [← hbb];exact pD x0
inductive s9 where
 | x0 (v5:List ByteArray)
def eN (v0:ByteArray) (v1:Int) (v5:List ByteArray) (v6 v7:Int):US:=stL 36 [(0,.one (tS v0)),(1,.one (tY v1)),(5,.one (.s .own () 1 (v5.map etS))),(6,.one (tI v6)),(7,.one (tI v7))]
def mH (zv5:List ByteArray):US:=stL 36 [(5,.one (.s .own () 1 (zv5.map etS)))]
abbrev ll:US→Exit→US→Prop:=Round E 74 (aw Tryz.f74 0)
def Aw (v0:ByteArray) (v1:Int) (v5:List ByteArray) (v6 v7:Int):s9→Prop
 | .x0 zv5=>Loops E 74 (aw Tryz.f74 0) (eN v0 v1 v5 v6 v7) (.exit 0) (mH zv5)
noncomputable def di (v0:ByteArray) (v1:Int):Nat→(List ByteArray)→Int→Int→Option s9
 | 0,_,_,_=>none
 | n+1,v5,v6,v7=>cond (decide (v7≤(v0.size:Int)))
  (cond (v7==(v0.size:Int))
   (if 0≤v6∧v6≤v7∧v7≤(v0.size:Int) then if (v5.length+([v0.extract v6.toNat v7.toNat]).length)*16≤140737488355328∧v5.length+([v0.extract v6.toNat v7.toNat]).length≤4611686018427387904 then di v0 v1 n (v5++([v0.extract v6.toNat v7.toNat])) (inc v7) (inc v7) else none else none)
   (if 0≤v7∧v7<(v0.size:Int) then cond ((fJ v0 v7)==v1)
    (if 0≤v6∧v6≤v7∧v7≤(v0.size:Int) then if (v5.length+([v0.extract v6.toNat v7.toNat]).length)*16≤140737488355328∧v5.length+([v0.extract v6.toNat v7.toNat]).length≤4611686018427387904 then di v0 v1 n (v5++([v0.extract v6.toNat v7.toNat])) (inc v7) (inc v7) else none else none)
    (di v0 v1 n v5 v6 (inc v7)) else none))
  (some (.x0 v5))
theorem Av (v0:ByteArray) (v1:Int) (n:Nat):∀ (v5:List ByteArray) (v6 v7:Int),Ans (di v0 v1 n v5 v6 v7) (Aw v0 v1 v5 v6 v7):=by
 induction n with
 | zero=>intros;exact Ans.none
 | succ n ih =>
  intro v5 v6 v7
  unfold di
  apply K0<;>intro h0
  ·apply K0<;>intro h1
   ·refine K2 (fun h2 => ?_)
    refine K2 (fun h3 => ?_)
    have r:ll (eN v0 v1 v5 v6 v7) .normal (eN v0 v1 (v5++([v0.extract v6.toNat v7.toNat])) (inc v7) (inc v7)):=RP [.b true,.b true,.rows ((v5++([v0.extract v6.toNat v7.toNat])).map etS)] (AC h0<|AC h1<|AC h2<|AAp etS (fun _=>rfl) h3<|AN);exact (ih (v5++([v0.extract v6.toNat v7.toNat])) (inc v7) (inc v7)).mono fun y hy=>by cases y<;>exact KY r hy
   ·refine K2 (fun h2 => ?_)
    apply K0<;>intro h3
    ·refine K2 (fun h4 => ?_)
     refine K2 (fun h5 => ?_)
     have r:ll (eN v0 v1 v5 v6 v7) .normal (eN v0 v1 (v5++([v0.extract v6.toNat v7.toNat])) (inc v7) (inc v7)):=RP [.b true,.b false,.b true,.rows ((v5++([v0.extract v6.toNat v7.toNat])).map etS)] (AC h0<|AC h1<|AC h2<|AC h3<|AC h4<|AAp etS (fun _=>rfl) h5<|AN);exact (ih (v5++([v0.extract v6.toNat v7.toNat])) (inc v7) (inc v7)).mono fun y hy=>by cases y<;>exact KY r hy
    ·have r:ll (eN v0 v1 v5 v6 v7) .normal (eN v0 v1 v5 v6 (inc v7)):=RP [.b true,.b false,.b false] (AC h0<|AC h1<|AC h2<|AC h3<|AN);exact (ih v5 v6 (inc v7)).mono fun y hy=>by cases y<;>exact KY r hy
  ·exact KX (KZ (show ll (eN v0 v1 v5 v6 v7) (.exit 0) (mH v5) from RP [.b false] (AC h0<|AN)) (by intro h;cases h))
noncomputable def mI (x0:ByteArray) (x1:Int):Option ((List ByteArray)) :=
  (di x0 x1 9223372036854775808 ([]) (0:Int) (0:Int)).bind fun y=>match y with
   | .x0 w0_5=>(some (w0_5))
theorem CK (x0:ByteArray) (x1:Int):Ans (mI x0 x1) (fun r=>Does E 74 [.one (tS x0),.one (tY x1)] [(false,[.s .own () 1 (r.map etS)])]):=by
 unfold mI
 refine K1 (fun y hy => ?_)
 replace hy:=Av x0 x1 9223372036854775808 ([]) (0:Int) (0:Int) y hy
 cases y with
 | x0 w0_5 =>
  have h0:=hy
  exact KX (DP Tryz.f74 [.lp (.exit 0) (mH w0_5)] (AL h0<|AN))
noncomputable def ak (s:ByteArray) (c:Int):List ByteArray:=(bE (UInt8.ofNat c.toNat) (tx s)).map ofTx
theorem Hv (s:ByteArray) (c:UInt8) (hs:s.size≤2000000):∀ (m i a:Nat) (v:List ByteArray) (n:Nat),i+m=(tx s).length→m+1<n→a≤i→v.length+m≤2000000 →
  di s (c.toNat:Int) n v (a:Int) (i:Int)=some (.x0 (v++(gy (seg (tx s) a i) (bE c ((tx s).drop i))).map ofTx))
 | m,i,a,v,n,hi,hn,ha,hv=>by
  obtain ⟨n,rfl⟩:∃ k,n=k+2:=⟨n-2,by omega⟩
  have hsz:=cM s
  unfold di
  rw [decide_eq_true (by omega:(i:Int)≤(s.size:Int)),cond_true]
  have hinc:inc (i:Int)=((i+1:Nat):Int):=by rw [fa _ (by omega) (by omega)];omega
  cases m with
  | zero =>
   have hd:(tx s).drop i=[]:=List.drop_eq_nil_of_le (by omega)
   have stop:∀ w b,di s (c.toNat:Int) (n+1) w b ((i+1:Nat):Int)=some (.x0 w):=fun w b=>by
    unfold di
    rw [decide_eq_false (by omega)];rfl
   have hc:gy (seg (tx s) a i) (bE c ([]:List UInt8))=[seg (tx s) a i]:=by simp [bE,gy]
   have e:((i:Int)==(s.size:Int))=true:=by rw [beq_iff_eq];omega
   rw [e,cond_true,if_pos (by omega),if_pos (by simp;omega),hinc,stop,hd,hc,show ((a:Int).toNat)=a by omega,show ((i:Int).toNat)=i by omega,kU];rfl
  | succ m =>
   obtain ⟨b,r,hd,hg,hr⟩:=BA (l:=tx s) (i:=i) (by omega)
   have hb:=Bd hg
   have ih:=fun a' v' (h1:a'≤i+1) (h2:v'.length+m≤2000000)=>Hv s c hs m (i+1) a' v' (n+1) (by omega) (by omega) h1 h2
   rw [hr] at ih
   have e:((i:Int)==(s.size:Int))=false:=by rw [beq_eq_false_iff_ne];omega
   rw [e,cond_false,if_pos (by omega),hb,hinc,hd]
   by_cases q:b=c
   ·subst q
    have hgl:gy (seg (tx s) a i) ([]::bE b r)=seg (tx s) a i::bE b r:=by simp [gy]
    have hz:gy (seg (tx s) (i+1) (i+1)) (bE b r)=bE b r:=by rw [pu];exact rQ _ (gA _ _)
    have:=ih (i+1) (v++[s.extract a i]) (by omega) (by simp;omega)
    rw [hz] at this
    rw [beq_self_eq_true,cond_true,if_pos (by omega),if_pos (by simp;omega),oS,hgl]
    rw [show ((a:Int).toNat)=a by omega,show ((i:Int).toNat)=i by omega,this,kU]
    simp
   ·have e:((b.toNat:Int)==(c.toNat:Int))=false:=by
     rw [beq_eq_false_iff_ne]
     intro h
     exact q (UInt8.toNat_inj.1 (by omega))
    rw [e,cond_false,ih a v (by omega) (by omega),lM q,zm _ _ _ (gA _ _), ← CO ha hg]
theorem FE (s:ByteArray) (c:Int) (hs:s.size≤2000000) (hc:0≤c∧c<256):mI s c=some (ak s c):=by
 have hz:gy (seg (tx s) 0 0) (bE (UInt8.ofNat c.toNat) (tx s))=bE (UInt8.ofNat c.toNat) (tx s):=by rw [pu];exact rQ _ (gA _ _)
 have e:=Hv s (UInt8.ofNat c.toNat) hs (tx s).length 0 0 [] 9223372036854775808 (by omega) (by rw [← cM];omega) (by omega) (by rw [← cM];simp;omega)
 have ec:(((UInt8.ofNat c.toNat).toNat:Nat):Int)=c:=by rw [UInt8.toNat_ofNat'];omega
 rw [List.drop_zero,hz,List.nil_append,ec] at e
 unfold mI ak
 refine (congrArg (Option.bind · _) e).trans ?_
 rfl
theorem aP (x0:ByteArray) (x1:Int) (h:x0.size≤2000000) (hc:0≤x1∧x1<256):Does E 74 [.one (tS x0),.one (tY x1)] [(false,[.s .own () 1 ((ak x0 x1).map etS)])]:=by
 exact CK x0 x1 _ (FE x0 x1 h hc)
noncomputable def j6 (x0:ByteArray) (x1 x2:Int):Option (Int×Int×Int×Bool) :=
  cond (x0.toList==(⟨#[42]⟩:ByteArray).toList)
   (some (x1,x2,(1:Int),true))
   (cond (decide ((x0.size:Int)>(2:Int)))
    (if 0≤(0:Int)∧(0:Int)≤(2:Int)∧(2:Int)≤(x0.size:Int) then cond ((x0.extract (0:Int).toNat (2:Int).toNat).toList==(⟨#[42,47]⟩:ByteArray).toList)
     (if 0≤(2:Int)∧(2:Int)≤(x0.size:Int)∧(x0.size:Int)≤(x0.size:Int) then cond ((ac (x0.extract (2:Int).toNat (x0.size:Int).toNat)).2)
      (some (x1,x2,(ac (x0.extract (2:Int).toNat (x0.size:Int).toNat)).1,decide (((ac (x0.extract (2:Int).toNat (x0.size:Int).toNat)).1)≥(1:Int))))
      (some (x1,x2,(ac (x0.extract (2:Int).toNat (x0.size:Int).toNat)).1,false)) else none)
     (if x0.size≤2000000 then if 0≤(45:Int)∧(45:Int)<256 then (aA (ak x0 (45:Int)) (0:Int)).bind fun g0=>cond ((ac g0).2)
      (cond (((ak x0 (45:Int)).length:Int)==(2:Int))
       ((aA (ak x0 (45:Int)) (1:Int)).bind fun g1=>cond ((ac g1).2)
        (cond (decide (((ak x0 (45:Int)).length:Int)≤(2:Int)))
         (cond (decide (x1≤((ac g0).1)))
          (cond (decide (((ac g0).1)≤((ac g1).1)))
           (some ((ac g0).1,(ac g1).1,(1:Int),decide (((ac g1).1)≤x2)))
           (some ((ac g0).1,(ac g1).1,(1:Int),false)))
          (some ((ac g0).1,(ac g1).1,(1:Int),false)))
         (some ((ac g0).1,(ac g1).1,(1:Int),false)))
        (some ((ac g0).1,(ac g1).1,(1:Int),false)))
       (cond (decide (((ak x0 (45:Int)).length:Int)≤(2:Int)))
        (cond (decide (x1≤((ac g0).1)))
         (cond (decide (((ac g0).1)≤((ac g0).1)))
          (some ((ac g0).1,(ac g0).1,(1:Int),decide (((ac g0).1)≤x2)))
          (some ((ac g0).1,(ac g0).1,(1:Int),false)))
         (some ((ac g0).1,(ac g0).1,(1:Int),false)))
        (some ((ac g0).1,(ac g0).1,(1:Int),false))))
      (cond (((ak x0 (45:Int)).length:Int)==(2:Int))
       ((aA (ak x0 (45:Int)) (1:Int)).bind fun g1=>some ((ac g0).1,(ac g1).1,(1:Int),false))
       (some ((ac g0).1,(ac g0).1,(1:Int),false))) else none else none) else none)
    (if x0.size≤2000000 then if 0≤(45:Int)∧(45:Int)<256 then (aA (ak x0 (45:Int)) (0:Int)).bind fun g0=>cond ((ac g0).2)
     (cond (((ak x0 (45:Int)).length:Int)==(2:Int))
      ((aA (ak x0 (45:Int)) (1:Int)).bind fun g1=>cond ((ac g1).2)
       (cond (decide (((ak x0 (45:Int)).length:Int)≤(2:Int)))
        (cond (decide (x1≤((ac g0).1)))
         (cond (decide (((ac g0).1)≤((ac g1).1)))
          (some ((ac g0).1,(ac g1).1,(1:Int),decide (((ac g1).1)≤x2)))
          (some ((ac g0).1,(ac g1).1,(1:Int),false)))
         (some ((ac g0).1,(ac g1).1,(1:Int),false)))
        (some ((ac g0).1,(ac g1).1,(1:Int),false)))
       (some ((ac g0).1,(ac g1).1,(1:Int),false)))
      (cond (decide (((ak x0 (45:Int)).length:Int)≤(2:Int)))
       (cond (decide (x1≤((ac g0).1)))
        (cond (decide (((ac g0).1)≤((ac g0).1)))
         (some ((ac g0).1,(ac g0).1,(1:Int),decide (((ac g0).1)≤x2)))
         (some ((ac g0).1,(ac g0).1,(1:Int),false)))
        (some ((ac g0).1,(ac g0).1,(1:Int),false)))
       (some ((ac g0).1,(ac g0).1,(1:Int),false))))
     (cond (((ak x0 (45:Int)).length:Int)==(2:Int))
      ((aA (ak x0 (45:Int)) (1:Int)).bind fun g1=>some ((ac g0).1,(ac g1).1,(1:Int),false))
      (some ((ac g0).1,(ac g0).1,(1:Int),false))) else none else none))
theorem CH (x0:ByteArray) (x1 x2:Int):Ans (j6 x0 x1 x2) (fun r=>Does E 75 [.one (tS x0),.one (tI x1),.one (tI x2)] [(false,[tI r.1]),(false,[tI r.2.1]),(false,[tI r.2.2.1]),(false,[tB r.2.2.2])]):=by
 unfold j6
 apply K0<;>intro h0
 ·exact KX (DP Tryz.f75 [.b true] (AC h0<|AN))
 ·apply K0<;>intro h1
  ·refine K2 (fun h2 => ?_)
   apply K0<;>intro h3
   ·refine K2 (fun h4 => ?_)
    apply K0<;>intro h5
    ·exact KX (DP Tryz.f75 [.b false,.b true,.b true,.ret [(false,[tI ((ac (x0.extract (2:Int).toNat (x0.size:Int).toNat)).1)]),(false,[tB true])]] (AC h0<|AC h1<|AC h2<|AC h3<|AC h4<|AD (av (x0.extract (2:Int).toNat (x0.size:Int).toNat) h5)<|AN))
    ·exact KX (DP Tryz.f75 [.b false,.b true,.b true,.ret [(false,[tI ((ac (x0.extract (2:Int).toNat (x0.size:Int).toNat)).1)]),(false,[tB false])]] (AC h0<|AC h1<|AC h2<|AC h3<|AC h4<|AD (av (x0.extract (2:Int).toNat (x0.size:Int).toNat) h5)<|AN))
   ·refine K2 (fun h4 => ?_)
    refine K2 (fun h5 => ?_)
    refine K1 (fun g0 h6 => ?_)
    apply K0<;>intro h7
    ·apply K0<;>intro h8
     ·refine K1 (fun g1 h9 => ?_)
      apply K0<;>intro h10
      ·apply K0<;>intro h11
       ·apply K0<;>intro h12
        ·apply K0<;>intro h13
         ·exact KX (DP Tryz.f75 [.b false,.b true,.b false,.ret [(false,[.s .own () 1 ((ak x0 (45:Int)).map etS)])],.row (etS g0),.ret [(false,[tI ((ac g0).1)]),(false,[tB true])],.val (.int .i64 ((ak x0 (45:Int)).length:Int)),.b true,.row (etS g1),.ret [(false,[tI ((ac g1).1)]),(false,[tB true])],.val (.int .i64 ((ak x0 (45:Int)).length:Int)),.b true,.b true,.b true] (AC h0<|AC h1<|AC h2<|AC h3<|AD (aP x0 (45:Int) h4 h5)<|AG etS h6<|AD (av g0 h7)<|ALn (ak x0 (45:Int)) etS<|AC h8<|AG etS h9<|AD (av g1 h10)<|ALn (ak x0 (45:Int)) etS<|AC h11<|AC h12<|AC h13<|AN))
         ·exact KX (DP Tryz.f75 [.b false,.b true,.b false,.ret [(false,[.s .own () 1 ((ak x0 (45:Int)).map etS)])],.row (etS g0),.ret [(false,[tI ((ac g0).1)]),(false,[tB true])],.val (.int .i64 ((ak x0 (45:Int)).length:Int)),.b true,.row (etS g1),.ret [(false,[tI ((ac g1).1)]),(false,[tB true])],.val (.int .i64 ((ak x0 (45:Int)).length:Int)),.b true,.b true,.b false] (AC h0<|AC h1<|AC h2<|AC h3<|AD (aP x0 (45:Int) h4 h5)<|AG etS h6<|AD (av g0 h7)<|ALn (ak x0 (45:Int)) etS<|AC h8<|AG etS h9<|AD (av g1 h10)<|ALn (ak x0 (45:Int)) etS<|AC h11<|AC h12<|AC h13<|AN))
        ·exact KX (DP Tryz.f75 [.b false,.b true,.b false,.ret [(false,[.s .own () 1 ((ak x0 (45:Int)).map etS)])],.row (etS g0),.ret [(false,[tI ((ac g0).1)]),(false,[tB true])],.val (.int .i64 ((ak x0 (45:Int)).length:Int)),.b true,.row (etS g1),.ret [(false,[tI ((ac g1).1)]),(false,[tB true])],.val (.int .i64 ((ak x0 (45:Int)).length:Int)),.b true,.b false] (AC h0<|AC h1<|AC h2<|AC h3<|AD (aP x0 (45:Int) h4 h5)<|AG etS h6<|AD (av g0 h7)<|ALn (ak x0 (45:Int)) etS<|AC h8<|AG etS h9<|AD (av g1 h10)<|ALn (ak x0 (45:Int)) etS<|AC h11<|AC h12<|AN))
       ·exact KX (DP Tryz.f75 [.b false,.b true,.b false,.ret [(false,[.s .own () 1 ((ak x0 (45:Int)).map etS)])],.row (etS g0),.ret [(false,[tI ((ac g0).1)]),(false,[tB true])],.val (.int .i64 ((ak x0 (45:Int)).length:Int)),.b true,.row (etS g1),.ret [(false,[tI ((ac g1).1)]),(false,[tB true])],.val (.int .i64 ((ak x0 (45:Int)).length:Int)),.b false] (AC h0<|AC h1<|AC h2<|AC h3<|AD (aP x0 (45:Int) h4 h5)<|AG etS h6<|AD (av g0 h7)<|ALn (ak x0 (45:Int)) etS<|AC h8<|AG etS h9<|AD (av g1 h10)<|ALn (ak x0 (45:Int)) etS<|AC h11<|AN))
      ·exact KX (DP Tryz.f75 [.b false,.b true,.b false,.ret [(false,[.s .own () 1 ((ak x0 (45:Int)).map etS)])],.row (etS g0),.ret [(false,[tI ((ac g0).1)]),(false,[tB true])],.val (.int .i64 ((ak x0 (45:Int)).length:Int)),.b true,.row (etS g1),.ret [(false,[tI ((ac g1).1)]),(false,[tB false])]] (AC h0<|AC h1<|AC h2<|AC h3<|AD (aP x0 (45:Int) h4 h5)<|AG etS h6<|AD (av g0 h7)<|ALn (ak x0 (45:Int)) etS<|AC h8<|AG etS h9<|AD (av g1 h10)<|AN))
     ·apply K0<;>intro h9
      ·apply K0<;>intro h10
       ·apply K0<;>intro h11
        ·exact KX (DP Tryz.f75 [.b false,.b true,.b false,.ret [(false,[.s .own () 1 ((ak x0 (45:Int)).map etS)])],.row (etS g0),.ret [(false,[tI ((ac g0).1)]),(false,[tB true])],.val (.int .i64 ((ak x0 (45:Int)).length:Int)),.b false,.val (.int .i64 ((ak x0 (45:Int)).length:Int)),.b true,.b true,.b true] (AC h0<|AC h1<|AC h2<|AC h3<|AD (aP x0 (45:Int) h4 h5)<|AG etS h6<|AD (av g0 h7)<|ALn (ak x0 (45:Int)) etS<|AC h8<|ALn (ak x0 (45:Int)) etS<|AC h9<|AC h10<|AC h11<|AN))
        ·exact KX (DP Tryz.f75 [.b false,.b true,.b false,.ret [(false,[.s .own () 1 ((ak x0 (45:Int)).map etS)])],.row (etS g0),.ret [(false,[tI ((ac g0).1)]),(false,[tB true])],.val (.int .i64 ((ak x0 (45:Int)).length:Int)),.b false,.val (.int .i64 ((ak x0 (45:Int)).length:Int)),.b true,.b true,.b false] (AC h0<|AC h1<|AC h2<|AC h3<|AD (aP x0 (45:Int) h4 h5)<|AG etS h6<|AD (av g0 h7)<|ALn (ak x0 (45:Int)) etS<|AC h8<|ALn (ak x0 (45:Int)) etS<|AC h9<|AC h10<|AC h11<|AN))
       ·exact KX (DP Tryz.f75 [.b false,.b true,.b false,.ret [(false,[.s .own () 1 ((ak x0 (45:Int)).map etS)])],.row (etS g0),.ret [(false,[tI ((ac g0).1)]),(false,[tB true])],.val (.int .i64 ((ak x0 (45:Int)).length:Int)),.b false,.val (.int .i64 ((ak x0 (45:Int)).length:Int)),.b true,.b false] (AC h0<|AC h1<|AC h2<|AC h3<|AD (aP x0 (45:Int) h4 h5)<|AG etS h6<|AD (av g0 h7)<|ALn (ak x0 (45:Int)) etS<|AC h8<|ALn (ak x0 (45:Int)) etS<|AC h9<|AC h10<|AN))
      ·exact KX (DP Tryz.f75 [.b false,.b true,.b false,.ret [(false,[.s .own () 1 ((ak x0 (45:Int)).map etS)])],.row (etS g0),.ret [(false,[tI ((ac g0).1)]),(false,[tB true])],.val (.int .i64 ((ak x0 (45:Int)).length:Int)),.b false,.val (.int .i64 ((ak x0 (45:Int)).length:Int)),.b false] (AC h0<|AC h1<|AC h2<|AC h3<|AD (aP x0 (45:Int) h4 h5)<|AG etS h6<|AD (av g0 h7)<|ALn (ak x0 (45:Int)) etS<|AC h8<|ALn (ak x0 (45:Int)) etS<|AC h9<|AN))
    ·apply K0<;>intro h8
     ·refine K1 (fun g1 h9 => ?_)
      exact KX (DP Tryz.f75 [.b false,.b true,.b false,.ret [(false,[.s .own () 1 ((ak x0 (45:Int)).map etS)])],.row (etS g0),.ret [(false,[tI ((ac g0).1)]),(false,[tB false])],.val (.int .i64 ((ak x0 (45:Int)).length:Int)),.b true,.row (etS g1),.ret [(false,[tI ((ac g1).1)]),(false,[tB ((ac g1).2)])]] (AC h0<|AC h1<|AC h2<|AC h3<|AD (aP x0 (45:Int) h4 h5)<|AG etS h6<|AD (av g0 h7)<|ALn (ak x0 (45:Int)) etS<|AC h8<|AG etS h9<|AD (l4 g1)<|AN))
     ·exact KX (DP Tryz.f75 [.b false,.b true,.b false,.ret [(false,[.s .own () 1 ((ak x0 (45:Int)).map etS)])],.row (etS g0),.ret [(false,[tI ((ac g0).1)]),(false,[tB false])],.val (.int .i64 ((ak x0 (45:Int)).length:Int)),.b false] (AC h0<|AC h1<|AC h2<|AC h3<|AD (aP x0 (45:Int) h4 h5)<|AG etS h6<|AD (av g0 h7)<|ALn (ak x0 (45:Int)) etS<|AC h8<|AN))
  ·refine K2 (fun h2 => ?_)
   refine K2 (fun h3 => ?_)
   refine K1 (fun g0 h4 => ?_)
   apply K0<;>intro h5
   ·apply K0<;>intro h6
    ·refine K1 (fun g1 h7 => ?_)
     apply K0<;>intro h8
     ·apply K0<;>intro h9
      ·apply K0<;>intro h10
       ·apply K0<;>intro h11
        ·exact KX (DP Tryz.f75 [.b false,.b false,.ret [(false,[.s .own () 1 ((ak x0 (45:Int)).map etS)])],.row (etS g0),.ret [(false,[tI ((ac g0).1)]),(false,[tB true])],.val (.int .i64 ((ak x0 (45:Int)).length:Int)),.b true,.row (etS g1),.ret [(false,[tI ((ac g1).1)]),(false,[tB true])],.val (.int .i64 ((ak x0 (45:Int)).length:Int)),.b true,.b true,.b true] (AC h0<|AC h1<|AD (aP x0 (45:Int) h2 h3)<|AG etS h4<|AD (av g0 h5)<|ALn (ak x0 (45:Int)) etS<|AC h6<|AG etS h7<|AD (av g1 h8)<|ALn (ak x0 (45:Int)) etS<|AC h9<|AC h10<|AC h11<|AN))
        ·exact KX (DP Tryz.f75 [.b false,.b false,.ret [(false,[.s .own () 1 ((ak x0 (45:Int)).map etS)])],.row (etS g0),.ret [(false,[tI ((ac g0).1)]),(false,[tB true])],.val (.int .i64 ((ak x0 (45:Int)).length:Int)),.b true,.row (etS g1),.ret [(false,[tI ((ac g1).1)]),(false,[tB true])],.val (.int .i64 ((ak x0 (45:Int)).length:Int)),.b true,.b true,.b false] (AC h0<|AC h1<|AD (aP x0 (45:Int) h2 h3)<|AG etS h4<|AD (av g0 h5)<|ALn (ak x0 (45:Int)) etS<|AC h6<|AG etS h7<|AD (av g1 h8)<|ALn (ak x0 (45:Int)) etS<|AC h9<|AC h10<|AC h11<|AN))
       ·exact KX (DP Tryz.f75 [.b false,.b false,.ret [(false,[.s .own () 1 ((ak x0 (45:Int)).map etS)])],.row (etS g0),.ret [(false,[tI ((ac g0).1)]),(false,[tB true])],.val (.int .i64 ((ak x0 (45:Int)).length:Int)),.b true,.row (etS g1),.ret [(false,[tI ((ac g1).1)]),(false,[tB true])],.val (.int .i64 ((ak x0 (45:Int)).length:Int)),.b true,.b false] (AC h0<|AC h1<|AD (aP x0 (45:Int) h2 h3)<|AG etS h4<|AD (av g0 h5)<|ALn (ak x0 (45:Int)) etS<|AC h6<|AG etS h7<|AD (av g1 h8)<|ALn (ak x0 (45:Int)) etS<|AC h9<|AC h10<|AN))
      ·exact KX (DP Tryz.f75 [.b false,.b false,.ret [(false,[.s .own () 1 ((ak x0 (45:Int)).map etS)])],.row (etS g0),.ret [(false,[tI ((ac g0).1)]),(false,[tB true])],.val (.int .i64 ((ak x0 (45:Int)).length:Int)),.b true,.row (etS g1),.ret [(false,[tI ((ac g1).1)]),(false,[tB true])],.val (.int .i64 ((ak x0 (45:Int)).length:Int)),.b false] (AC h0<|AC h1<|AD (aP x0 (45:Int) h2 h3)<|AG etS h4<|AD (av g0 h5)<|ALn (ak x0 (45:Int)) etS<|AC h6<|AG etS h7<|AD (av g1 h8)<|ALn (ak x0 (45:Int)) etS<|AC h9<|AN))
     ·exact KX (DP Tryz.f75 [.b false,.b false,.ret [(false,[.s .own () 1 ((ak x0 (45:Int)).map etS)])],.row (etS g0),.ret [(false,[tI ((ac g0).1)]),(false,[tB true])],.val (.int .i64 ((ak x0 (45:Int)).length:Int)),.b true,.row (etS g1),.ret [(false,[tI ((ac g1).1)]),(false,[tB false])]] (AC h0<|AC h1<|AD (aP x0 (45:Int) h2 h3)<|AG etS h4<|AD (av g0 h5)<|ALn (ak x0 (45:Int)) etS<|AC h6<|AG etS h7<|AD (av g1 h8)<|AN))
    ·apply K0<;>intro h7
     ·apply K0<;>intro h8
      ·apply K0<;>intro h9
       ·exact KX (DP Tryz.f75 [.b false,.b false,.ret [(false,[.s .own () 1 ((ak x0 (45:Int)).map etS)])],.row (etS g0),.ret [(false,[tI ((ac g0).1)]),(false,[tB true])],.val (.int .i64 ((ak x0 (45:Int)).length:Int)),.b false,.val (.int .i64 ((ak x0 (45:Int)).length:Int)),.b true,.b true,.b true] (AC h0<|AC h1<|AD (aP x0 (45:Int) h2 h3)<|AG etS h4<|AD (av g0 h5)<|ALn (ak x0 (45:Int)) etS<|AC h6<|ALn (ak x0 (45:Int)) etS<|AC h7<|AC h8<|AC h9<|AN))
       ·exact KX (DP Tryz.f75 [.b false,.b false,.ret [(false,[.s .own () 1 ((ak x0 (45:Int)).map etS)])],.row (etS g0),.ret [(false,[tI ((ac g0).1)]),(false,[tB true])],.val (.int .i64 ((ak x0 (45:Int)).length:Int)),.b false,.val (.int .i64 ((ak x0 (45:Int)).length:Int)),.b true,.b true,.b false] (AC h0<|AC h1<|AD (aP x0 (45:Int) h2 h3)<|AG etS h4<|AD (av g0 h5)<|ALn (ak x0 (45:Int)) etS<|AC h6<|ALn (ak x0 (45:Int)) etS<|AC h7<|AC h8<|AC h9<|AN))
      ·exact KX (DP Tryz.f75 [.b false,.b false,.ret [(false,[.s .own () 1 ((ak x0 (45:Int)).map etS)])],.row (etS g0),.ret [(false,[tI ((ac g0).1)]),(false,[tB true])],.val (.int .i64 ((ak x0 (45:Int)).length:Int)),.b false,.val (.int .i64 ((ak x0 (45:Int)).length:Int)),.b true,.b false] (AC h0<|AC h1<|AD (aP x0 (45:Int) h2 h3)<|AG etS h4<|AD (av g0 h5)<|ALn (ak x0 (45:Int)) etS<|AC h6<|ALn (ak x0 (45:Int)) etS<|AC h7<|AC h8<|AN))
     ·exact KX (DP Tryz.f75 [.b false,.b false,.ret [(false,[.s .own () 1 ((ak x0 (45:Int)).map etS)])],.row (etS g0),.ret [(false,[tI ((ac g0).1)]),(false,[tB true])],.val (.int .i64 ((ak x0 (45:Int)).length:Int)),.b false,.val (.int .i64 ((ak x0 (45:Int)).length:Int)),.b false] (AC h0<|AC h1<|AD (aP x0 (45:Int) h2 h3)<|AG etS h4<|AD (av g0 h5)<|ALn (ak x0 (45:Int)) etS<|AC h6<|ALn (ak x0 (45:Int)) etS<|AC h7<|AN))
   ·apply K0<;>intro h6
    ·refine K1 (fun g1 h7 => ?_)
     exact KX (DP Tryz.f75 [.b false,.b false,.ret [(false,[.s .own () 1 ((ak x0 (45:Int)).map etS)])],.row (etS g0),.ret [(false,[tI ((ac g0).1)]),(false,[tB false])],.val (.int .i64 ((ak x0 (45:Int)).length:Int)),.b true,.row (etS g1),.ret [(false,[tI ((ac g1).1)]),(false,[tB ((ac g1).2)])]] (AC h0<|AC h1<|AD (aP x0 (45:Int) h2 h3)<|AG etS h4<|AD (av g0 h5)<|ALn (ak x0 (45:Int)) etS<|AC h6<|AG etS h7<|AD (l4 g1)<|AN))
    ·exact KX (DP Tryz.f75 [.b false,.b false,.ret [(false,[.s .own () 1 ((ak x0 (45:Int)).map etS)])],.row (etS g0),.ret [(false,[tI ((ac g0).1)]),(false,[tB false])],.val (.int .i64 ((ak x0 (45:Int)).length:Int)),.b false] (AC h0<|AC h1<|AD (aP x0 (45:Int) h2 h3)<|AG etS h4<|AD (av g0 h5)<|ALn (ak x0 (45:Int)) etS<|AC h6<|AN))
noncomputable def kX (x0:ByteArray) (x1 x2:Int):Option (Int×Int×Int×Bool) :=
  cond (x0.toList==(⟨#[42]⟩:ByteArray).toList)
   (some (x1,x2,(1:Int),true))
   (cond ((bD x0 (⟨#[42,47]⟩:ByteArray)).2)
    (cond ((ac ((bD x0 (⟨#[42,47]⟩:ByteArray)).1)).2)
     (some (x1,x2,(ac ((bD x0 (⟨#[42,47]⟩:ByteArray)).1)).1,decide (((ac ((bD x0 (⟨#[42,47]⟩:ByteArray)).1)).1)≥(1:Int))))
     (some (x1,x2,(ac ((bD x0 (⟨#[42,47]⟩:ByteArray)).1)).1,false)))
    (if x0.size<4294967281 then cond ((aE x0 (⟨#[45]⟩:ByteArray)).2.2)
     (cond ((ac ((aE x0 (⟨#[45]⟩:ByteArray)).1)).2)
      (cond ((ac ((aE x0 (⟨#[45]⟩:ByteArray)).2.1)).2)
       (cond (decide (((ac ((aE x0 (⟨#[45]⟩:ByteArray)).1)).1)≥x1))
        (cond (decide (((ac ((aE x0 (⟨#[45]⟩:ByteArray)).1)).1)≤((ac ((aE x0 (⟨#[45]⟩:ByteArray)).2.1)).1)))
         (some ((ac ((aE x0 (⟨#[45]⟩:ByteArray)).1)).1,(ac ((aE x0 (⟨#[45]⟩:ByteArray)).2.1)).1,(1:Int),decide (((ac ((aE x0 (⟨#[45]⟩:ByteArray)).2.1)).1)≤x2)))
         (some ((ac ((aE x0 (⟨#[45]⟩:ByteArray)).1)).1,(ac ((aE x0 (⟨#[45]⟩:ByteArray)).2.1)).1,(1:Int),false)))
        (some ((ac ((aE x0 (⟨#[45]⟩:ByteArray)).1)).1,(ac ((aE x0 (⟨#[45]⟩:ByteArray)).2.1)).1,(1:Int),false)))
       (some ((ac ((aE x0 (⟨#[45]⟩:ByteArray)).1)).1,(ac ((aE x0 (⟨#[45]⟩:ByteArray)).2.1)).1,(1:Int),false)))
      (some ((ac ((aE x0 (⟨#[45]⟩:ByteArray)).1)).1,(ac ((aE x0 (⟨#[45]⟩:ByteArray)).2.1)).1,(1:Int),false)))
     (cond ((ac ((aE x0 (⟨#[45]⟩:ByteArray)).1)).2)
      (cond (decide (((ac ((aE x0 (⟨#[45]⟩:ByteArray)).1)).1)≥x1))
       (cond (decide (((ac ((aE x0 (⟨#[45]⟩:ByteArray)).1)).1)≤((ac ((aE x0 (⟨#[45]⟩:ByteArray)).1)).1)))
        (some ((ac ((aE x0 (⟨#[45]⟩:ByteArray)).1)).1,(ac ((aE x0 (⟨#[45]⟩:ByteArray)).1)).1,(1:Int),decide (((ac ((aE x0 (⟨#[45]⟩:ByteArray)).1)).1)≤x2)))
        (some ((ac ((aE x0 (⟨#[45]⟩:ByteArray)).1)).1,(ac ((aE x0 (⟨#[45]⟩:ByteArray)).1)).1,(1:Int),false)))
       (some ((ac ((aE x0 (⟨#[45]⟩:ByteArray)).1)).1,(ac ((aE x0 (⟨#[45]⟩:ByteArray)).1)).1,(1:Int),false)))
      (some ((ac ((aE x0 (⟨#[45]⟩:ByteArray)).1)).1,(ac ((aE x0 (⟨#[45]⟩:ByteArray)).1)).1,(1:Int),false))) else none))
theorem DF (x0:ByteArray) (x1 x2:Int):Ans (kX x0 x1 x2) (fun r=>Does E 91 [.one (tS x0),.one (tI x1),.one (tI x2)] [(false,[tI r.1]),(false,[tI r.2.1]),(false,[tI r.2.2.1]),(false,[tB r.2.2.2])]):=by
 unfold kX
 apply K0<;>intro h0
 ·exact KX (DP Tryz.f91 [.b true] (AC h0<|AN))
 ·apply K0<;>intro h1
  ·apply K0<;>intro h2
   ·exact KX (DP Tryz.f91 [.b false,.ret [(false,[tS ((bD x0 (⟨#[42,47]⟩:ByteArray)).1)]),(false,[tB true])],.ret [(false,[tI ((ac ((bD x0 (⟨#[42,47]⟩:ByteArray)).1)).1)]),(false,[tB true])]] (AC h0<|AD (K3 (rs':=[(false,[tS ((bD x0 (⟨#[42,47]⟩:ByteArray)).1)]),(false,[tB true])]) (bu x0 (⟨#[42,47]⟩:ByteArray)) (by rw [h1]))<|AD (bd ((bD x0 (⟨#[42,47]⟩:ByteArray)).1) h2)<|AN))
   ·exact KX (DP Tryz.f91 [.b false,.ret [(false,[tS ((bD x0 (⟨#[42,47]⟩:ByteArray)).1)]),(false,[tB true])],.ret [(false,[tI ((ac ((bD x0 (⟨#[42,47]⟩:ByteArray)).1)).1)]),(false,[tB false])]] (AC h0<|AD (K3 (rs':=[(false,[tS ((bD x0 (⟨#[42,47]⟩:ByteArray)).1)]),(false,[tB true])]) (bu x0 (⟨#[42,47]⟩:ByteArray)) (by rw [h1]))<|AD (bd ((bD x0 (⟨#[42,47]⟩:ByteArray)).1) h2)<|AN))
  ·refine K2 (fun h2 => ?_)
   apply K0<;>intro h3
   ·apply K0<;>intro h4
    ·apply K0<;>intro h5
     ·apply K0<;>intro h6
      ·apply K0<;>intro h7
       ·exact KX (DP Tryz.f91 [.b false,.ret [(false,[tS ((bD x0 (⟨#[42,47]⟩:ByteArray)).1)]),(false,[tB false])],.ret [(false,[tS ((aE x0 (⟨#[45]⟩:ByteArray)).1)]),(false,[tS ((aE x0 (⟨#[45]⟩:ByteArray)).2.1)]),(false,[tB true])],.ret [(false,[tI ((ac ((aE x0 (⟨#[45]⟩:ByteArray)).1)).1)]),(false,[tB true])],.ret [(false,[tI ((ac ((aE x0 (⟨#[45]⟩:ByteArray)).2.1)).1)]),(false,[tB true])],.b true,.b true] (AC h0<|AD (K3 (rs':=[(false,[tS ((bD x0 (⟨#[42,47]⟩:ByteArray)).1)]),(false,[tB false])]) (bu x0 (⟨#[42,47]⟩:ByteArray)) (by rw [h1]))<|AD (K3 (rs':=[(false,[tS ((aE x0 (⟨#[45]⟩:ByteArray)).1)]),(false,[tS ((aE x0 (⟨#[45]⟩:ByteArray)).2.1)]),(false,[tB true])]) (dP x0 (⟨#[45]⟩:ByteArray) h2) (by rw [h3]))<|AD (bd ((aE x0 (⟨#[45]⟩:ByteArray)).1) h4)<|AD (bd ((aE x0 (⟨#[45]⟩:ByteArray)).2.1) h5)<|AC h6<|AC h7<|AN))
       ·exact KX (DP Tryz.f91 [.b false,.ret [(false,[tS ((bD x0 (⟨#[42,47]⟩:ByteArray)).1)]),(false,[tB false])],.ret [(false,[tS ((aE x0 (⟨#[45]⟩:ByteArray)).1)]),(false,[tS ((aE x0 (⟨#[45]⟩:ByteArray)).2.1)]),(false,[tB true])],.ret [(false,[tI ((ac ((aE x0 (⟨#[45]⟩:ByteArray)).1)).1)]),(false,[tB true])],.ret [(false,[tI ((ac ((aE x0 (⟨#[45]⟩:ByteArray)).2.1)).1)]),(false,[tB true])],.b true,.b false] (AC h0<|AD (K3 (rs':=[(false,[tS ((bD x0 (⟨#[42,47]⟩:ByteArray)).1)]),(false,[tB false])]) (bu x0 (⟨#[42,47]⟩:ByteArray)) (by rw [h1]))<|AD (K3 (rs':=[(false,[tS ((aE x0 (⟨#[45]⟩:ByteArray)).1)]),(false,[tS ((aE x0 (⟨#[45]⟩:ByteArray)).2.1)]),(false,[tB true])]) (dP x0 (⟨#[45]⟩:ByteArray) h2) (by rw [h3]))<|AD (bd ((aE x0 (⟨#[45]⟩:ByteArray)).1) h4)<|AD (bd ((aE x0 (⟨#[45]⟩:ByteArray)).2.1) h5)<|AC h6<|AC h7<|AN))
      ·exact KX (DP Tryz.f91 [.b false,.ret [(false,[tS ((bD x0 (⟨#[42,47]⟩:ByteArray)).1)]),(false,[tB false])],.ret [(false,[tS ((aE x0 (⟨#[45]⟩:ByteArray)).1)]),(false,[tS ((aE x0 (⟨#[45]⟩:ByteArray)).2.1)]),(false,[tB true])],.ret [(false,[tI ((ac ((aE x0 (⟨#[45]⟩:ByteArray)).1)).1)]),(false,[tB true])],.ret [(false,[tI ((ac ((aE x0 (⟨#[45]⟩:ByteArray)).2.1)).1)]),(false,[tB true])],.b false] (AC h0<|AD (K3 (rs':=[(false,[tS ((bD x0 (⟨#[42,47]⟩:ByteArray)).1)]),(false,[tB false])]) (bu x0 (⟨#[42,47]⟩:ByteArray)) (by rw [h1]))<|AD (K3 (rs':=[(false,[tS ((aE x0 (⟨#[45]⟩:ByteArray)).1)]),(false,[tS ((aE x0 (⟨#[45]⟩:ByteArray)).2.1)]),(false,[tB true])]) (dP x0 (⟨#[45]⟩:ByteArray) h2) (by rw [h3]))<|AD (bd ((aE x0 (⟨#[45]⟩:ByteArray)).1) h4)<|AD (bd ((aE x0 (⟨#[45]⟩:ByteArray)).2.1) h5)<|AC h6<|AN))
     ·exact KX (DP Tryz.f91 [.b false,.ret [(false,[tS ((bD x0 (⟨#[42,47]⟩:ByteArray)).1)]),(false,[tB false])],.ret [(false,[tS ((aE x0 (⟨#[45]⟩:ByteArray)).1)]),(false,[tS ((aE x0 (⟨#[45]⟩:ByteArray)).2.1)]),(false,[tB true])],.ret [(false,[tI ((ac ((aE x0 (⟨#[45]⟩:ByteArray)).1)).1)]),(false,[tB true])],.ret [(false,[tI ((ac ((aE x0 (⟨#[45]⟩:ByteArray)).2.1)).1)]),(false,[tB false])]] (AC h0<|AD (K3 (rs':=[(false,[tS ((bD x0 (⟨#[42,47]⟩:ByteArray)).1)]),(false,[tB false])]) (bu x0 (⟨#[42,47]⟩:ByteArray)) (by rw [h1]))<|AD (K3 (rs':=[(false,[tS ((aE x0 (⟨#[45]⟩:ByteArray)).1)]),(false,[tS ((aE x0 (⟨#[45]⟩:ByteArray)).2.1)]),(false,[tB true])]) (dP x0 (⟨#[45]⟩:ByteArray) h2) (by rw [h3]))<|AD (bd ((aE x0 (⟨#[45]⟩:ByteArray)).1) h4)<|AD (bd ((aE x0 (⟨#[45]⟩:ByteArray)).2.1) h5)<|AN))
    ·exact KX (DP Tryz.f91 [.b false,.ret [(false,[tS ((bD x0 (⟨#[42,47]⟩:ByteArray)).1)]),(false,[tB false])],.ret [(false,[tS ((aE x0 (⟨#[45]⟩:ByteArray)).1)]),(false,[tS ((aE x0 (⟨#[45]⟩:ByteArray)).2.1)]),(false,[tB true])],.ret [(false,[tI ((ac ((aE x0 (⟨#[45]⟩:ByteArray)).1)).1)]),(false,[tB false])],.ret [(false,[tI ((ac ((aE x0 (⟨#[45]⟩:ByteArray)).2.1)).1)]),(false,[tB ((ac ((aE x0 (⟨#[45]⟩:ByteArray)).2.1)).2)])]] (AC h0<|AD (K3 (rs':=[(false,[tS ((bD x0 (⟨#[42,47]⟩:ByteArray)).1)]),(false,[tB false])]) (bu x0 (⟨#[42,47]⟩:ByteArray)) (by rw [h1]))<|AD (K3 (rs':=[(false,[tS ((aE x0 (⟨#[45]⟩:ByteArray)).1)]),(false,[tS ((aE x0 (⟨#[45]⟩:ByteArray)).2.1)]),(false,[tB true])]) (dP x0 (⟨#[45]⟩:ByteArray) h2) (by rw [h3]))<|AD (bd ((aE x0 (⟨#[45]⟩:ByteArray)).1) h4)<|AD (pD ((aE x0 (⟨#[45]⟩:ByteArray)).2.1))<|AN))
   ·apply K0<;>intro h4
    ·apply K0<;>intro h5
     ·apply K0<;>intro h6
      ·exact KX (DP Tryz.f91 [.b false,.ret [(false,[tS ((bD x0 (⟨#[42,47]⟩:ByteArray)).1)]),(false,[tB false])],.ret [(false,[tS ((aE x0 (⟨#[45]⟩:ByteArray)).1)]),(false,[tS ((aE x0 (⟨#[45]⟩:ByteArray)).2.1)]),(false,[tB false])],.ret [(false,[tI ((ac ((aE x0 (⟨#[45]⟩:ByteArray)).1)).1)]),(false,[tB true])],.b true,.b true] (AC h0<|AD (K3 (rs':=[(false,[tS ((bD x0 (⟨#[42,47]⟩:ByteArray)).1)]),(false,[tB false])]) (bu x0 (⟨#[42,47]⟩:ByteArray)) (by rw [h1]))<|AD (K3 (rs':=[(false,[tS ((aE x0 (⟨#[45]⟩:ByteArray)).1)]),(false,[tS ((aE x0 (⟨#[45]⟩:ByteArray)).2.1)]),(false,[tB false])]) (dP x0 (⟨#[45]⟩:ByteArray) h2) (by rw [h3]))<|AD (bd ((aE x0 (⟨#[45]⟩:ByteArray)).1) h4)<|AC h5<|AC h6<|AN))
      ·exact KX (DP Tryz.f91 [.b false,.ret [(false,[tS ((bD x0 (⟨#[42,47]⟩:ByteArray)).1)]),(false,[tB false])],.ret [(false,[tS ((aE x0 (⟨#[45]⟩:ByteArray)).1)]),(false,[tS ((aE x0 (⟨#[45]⟩:ByteArray)).2.1)]),(false,[tB false])],.ret [(false,[tI ((ac ((aE x0 (⟨#[45]⟩:ByteArray)).1)).1)]),(false,[tB true])],.b true,.b false] (AC h0<|AD (K3 (rs':=[(false,[tS ((bD x0 (⟨#[42,47]⟩:ByteArray)).1)]),(false,[tB false])]) (bu x0 (⟨#[42,47]⟩:ByteArray)) (by rw [h1]))<|AD (K3 (rs':=[(false,[tS ((aE x0 (⟨#[45]⟩:ByteArray)).1)]),(false,[tS ((aE x0 (⟨#[45]⟩:ByteArray)).2.1)]),(false,[tB false])]) (dP x0 (⟨#[45]⟩:ByteArray) h2) (by rw [h3]))<|AD (bd ((aE x0 (⟨#[45]⟩:ByteArray)).1) h4)<|AC h5<|AC h6<|AN))
     ·exact KX (DP Tryz.f91 [.b false,.ret [(false,[tS ((bD x0 (⟨#[42,47]⟩:ByteArray)).1)]),(false,[tB false])],.ret [(false,[tS ((aE x0 (⟨#[45]⟩:ByteArray)).1)]),(false,[tS ((aE x0 (⟨#[45]⟩:ByteArray)).2.1)]),(false,[tB false])],.ret [(false,[tI ((ac ((aE x0 (⟨#[45]⟩:ByteArray)).1)).1)]),(false,[tB true])],.b false] (AC h0<|AD (K3 (rs':=[(false,[tS ((bD x0 (⟨#[42,47]⟩:ByteArray)).1)]),(false,[tB false])]) (bu x0 (⟨#[42,47]⟩:ByteArray)) (by rw [h1]))<|AD (K3 (rs':=[(false,[tS ((aE x0 (⟨#[45]⟩:ByteArray)).1)]),(false,[tS ((aE x0 (⟨#[45]⟩:ByteArray)).2.1)]),(false,[tB false])]) (dP x0 (⟨#[45]⟩:ByteArray) h2) (by rw [h3]))<|AD (bd ((aE x0 (⟨#[45]⟩:ByteArray)).1) h4)<|AC h5<|AN))
    ·exact KX (DP Tryz.f91 [.b false,.ret [(false,[tS ((bD x0 (⟨#[42,47]⟩:ByteArray)).1)]),(false,[tB false])],.ret [(false,[tS ((aE x0 (⟨#[45]⟩:ByteArray)).1)]),(false,[tS ((aE x0 (⟨#[45]⟩:ByteArray)).2.1)]),(false,[tB false])],.ret [(false,[tI ((ac ((aE x0 (⟨#[45]⟩:ByteArray)).1)).1)]),(false,[tB false])]] (AC h0<|AD (K3 (rs':=[(false,[tS ((bD x0 (⟨#[42,47]⟩:ByteArray)).1)]),(false,[tB false])]) (bu x0 (⟨#[42,47]⟩:ByteArray)) (by rw [h1]))<|AD (K3 (rs':=[(false,[tS ((aE x0 (⟨#[45]⟩:ByteArray)).1)]),(false,[tS ((aE x0 (⟨#[45]⟩:ByteArray)).2.1)]),(false,[tB false])]) (dP x0 (⟨#[45]⟩:ByteArray) h2) (by rw [h3]))<|AD (bd ((aE x0 (⟨#[45]⟩:ByteArray)).1) h4)<|AN))
def tt (r:Int×Int×Int×Bool) (o:Option (Int×Int×Int)):Prop :=
 match o with | some (a,b,c)=>r=(a,b,c,true) | none=>r.2.2.2=false
noncomputable def rg (ps:List (List UInt8)) (lo hi:Int):Option (Int×Int×Int) :=
 match ps with
 | [p]=>if (ac (ofTx p)).2=true∧lo≤(ac (ofTx p)).1∧(ac (ofTx p)).1≤hi then some ((ac (ofTx p)).1,(ac (ofTx p)).1,1) else none
 | [p,q]=>if (ac (ofTx p)).2=true∧(ac (ofTx q)).2=true∧lo≤(ac (ofTx p)).1∧(ac (ofTx p)).1≤(ac (ofTx q)).1∧(ac (ofTx q)).1≤hi then some ((ac (ofTx p)).1,(ac (ofTx q)).1,1) else none
 | _=>none
theorem wv (p:List UInt8) (lo hi:Int):rg [p] lo hi=if (ac (ofTx p)).2=true∧lo≤(ac (ofTx p)).1∧(ac (ofTx p)).1≤hi then some ((ac (ofTx p)).1,(ac (ofTx p)).1,1) else none:=rfl
theorem Cl (p q:List UInt8) (lo hi:Int):rg [p,q] lo hi=if (ac (ofTx p)).2=true∧(ac (ofTx q)).2=true∧lo≤(ac (ofTx p)).1∧(ac (ofTx p)).1≤(ac (ofTx q)).1∧(ac (ofTx q)).1≤hi then some ((ac (ofTx p)).1,(ac (ofTx q)).1,1) else none:=rfl
theorem Cm (p q r:List UInt8) (l:List (List UInt8)) (lo hi:Int):rg (p::q::r::l) lo hi=none:=rfl
noncomputable def sb (s:ByteArray) (lo hi:Int):Option (Int×Int×Int) :=
 if tx s=[42] then some (lo,hi,1)
 else if [42,47].isPrefixOf (tx s)=true then
  (if (ac (ofTx ((tx s).drop 2))).2=true∧1≤(ac (ofTx ((tx s).drop 2))).1 then some (lo,hi,(ac (ofTx ((tx s).drop 2))).1) else none)
 else rg (bE 45 (tx s)) lo hi
noncomputable def cD (s:ByteArray) (lo hi:Int):Int×Int×Int×Bool:=(j6 s lo hi).getD (0,0,0,false)
noncomputable def cC (s:ByteArray) (lo hi:Int):Int×Int×Int×Bool:=(kX s lo hi).getD (0,0,0,false)
theorem Cn {o:Option (Int×Int×Int×Bool)} {p:Option (Int×Int×Int)} {d:Int×Int×Int×Bool} (h:∃ r,o=some r∧tt r p):o=some (o.getD d)∧tt (o.getD d) p:=by
 obtain ⟨r,rfl,h⟩:=h
 exact ⟨rfl,h⟩
theorem Hj (L:List ByteArray) (ps:List (List UInt8)) (hL:L=ps.map ofTx) (lo hi:Int) (hne:∃ x xs,ps=x::xs) :
  ∃ r,((aA L (0:Int)).bind fun g0=>cond ((ac g0).2)
     (cond ((L.length:Int)==(2:Int))
      ((aA L (1:Int)).bind fun g1=>cond ((ac g1).2)
       (cond (decide ((L.length:Int)≤(2:Int)))
        (cond (decide (lo≤((ac g0).1)))
         (cond (decide (((ac g0).1)≤((ac g1).1)))
          (some ((ac g0).1,(ac g1).1,(1:Int),decide (((ac g1).1)≤hi)))
          (some ((ac g0).1,(ac g1).1,(1:Int),false)))
         (some ((ac g0).1,(ac g1).1,(1:Int),false)))
        (some ((ac g0).1,(ac g1).1,(1:Int),false)))
       (some ((ac g0).1,(ac g1).1,(1:Int),false)))
      (cond (decide ((L.length:Int)≤(2:Int)))
       (cond (decide (lo≤((ac g0).1)))
        (cond (decide (((ac g0).1)≤((ac g0).1)))
         (some ((ac g0).1,(ac g0).1,(1:Int),decide (((ac g0).1)≤hi)))
         (some ((ac g0).1,(ac g0).1,(1:Int),false)))
        (some ((ac g0).1,(ac g0).1,(1:Int),false)))
       (some ((ac g0).1,(ac g0).1,(1:Int),false))))
     (cond ((L.length:Int)==(2:Int))
      ((aA L (1:Int)).bind fun g1=>some ((ac g0).1,(ac g1).1,(1:Int),false))
      (some ((ac g0).1,(ac g0).1,(1:Int),false))))=some r∧tt r (rg ps lo hi):=by
 subst hL
 match ps,hne with
 | [p],_ =>
  have g0:aA ([p].map ofTx) 0=some (ofTx p):=rfl
  have e1:((([p].map ofTx).length:Int)==2)=false:=rfl
  have e2:decide ((([p].map ofTx).length:Int)≤2)=true:=rfl
  rw [g0,e1,e2,wv,Option.bind_some]
  simp only [cond_true,cond_false]
  generalize ac (ofTx p)=a
  obtain ⟨a,b⟩:=a
  cases b with
  | false=>exact ⟨_,rfl,by rw [if_neg (by simp)];exact rfl⟩
  | true =>
   rw [cond_true]
   by_cases h1:lo≤a
   ·rw [decide_eq_true h1,cond_true,decide_eq_true (Int.le_refl _),cond_true]
    refine ⟨_,rfl,?_⟩
    by_cases h2:a≤hi
    ·rw [decide_eq_true h2,if_pos ⟨rfl,h1,h2⟩];exact rfl
    ·rw [decide_eq_false h2,if_neg (fun h=>h2 h.2.2)];exact rfl
   ·rw [decide_eq_false h1]
    exact ⟨_,rfl,by rw [if_neg (fun h=>h1 h.2.1)];exact rfl⟩
 | [p,q],_ =>
  have g0:aA ([p,q].map ofTx) 0=some (ofTx p):=rfl
  have g1:aA ([p,q].map ofTx) 1=some (ofTx q):=rfl
  have e1:((([p,q].map ofTx).length:Int)==2)=true:=rfl
  have e2:decide ((([p,q].map ofTx).length:Int)≤2)=true:=rfl
  rw [g0,g1,e1,e2,Cl,Option.bind_some,Option.bind_some]
  simp only [cond_true,cond_false]
  generalize ac (ofTx p)=a
  generalize ac (ofTx q)=c
  obtain ⟨a,b⟩:=a
  obtain ⟨c,d⟩:=c
  cases b with
  | false=>exact ⟨_,rfl,by rw [if_neg (by simp)];exact rfl⟩
  | true =>
   cases d with
   | false=>exact ⟨_,rfl,by rw [if_neg (by simp)];exact rfl⟩
   | true =>
    rw [cond_true,cond_true]
    by_cases h1:lo≤a
    ·rw [decide_eq_true h1,cond_true]
     by_cases h3:a≤c
     ·rw [decide_eq_true h3,cond_true]
      refine ⟨_,rfl,?_⟩
      by_cases h2:c≤hi
      ·rw [decide_eq_true h2,if_pos ⟨rfl,rfl,h1,h3,h2⟩];exact rfl
      ·rw [decide_eq_false h2,if_neg (fun h=>h2 h.2.2.2.2)];exact rfl
     ·rw [decide_eq_false h3]
      exact ⟨_,rfl,by rw [if_neg (fun h=>h3 h.2.2.2.1)];exact rfl⟩
    ·rw [decide_eq_false h1]
     exact ⟨_,rfl,by rw [if_neg (fun h=>h1 h.2.2.1)];exact rfl⟩
 | p::q::t::ps,_ =>
  have e1:((((p::q::t::ps).map ofTx).length:Int)==2)=false:=by rw [beq_eq_false_iff_ne];simp;omega
  have e2:decide ((((p::q::t::ps).map ofTx).length:Int)≤2)=false:=decide_eq_false (by simp;omega)
  rw [e1,e2,Cm]
  have g0:aA ((p::q::t::ps).map ofTx) 0=some (ofTx p):=rfl
  rw [g0,Option.bind_some]
  cases (ac (ofTx p)).2 with
  | false=>exact ⟨_,rfl,rfl⟩
  | true=>exact ⟨_,rfl,rfl⟩
theorem zw (s:ByteArray) (lo hi:Int) (hs:s.size≤2000000):j6 s lo hi=some (cD s lo hi)∧tt (cD s lo hi) (sb s lo hi):=by
 refine Cn ?_
 unfold j6 sb
 have e42:tx (⟨#[42]⟩:ByteArray)=[42]:=rfl
 have e4247:tx (⟨#[42,47]⟩:ByteArray)=[42,47]:=rfl
 rw [jb,e42]
 by_cases h:tx s=[42]
 ·rw [decide_eq_true h,if_pos h];exact ⟨_,rfl,rfl⟩
 ·have hp:(s.size≤2000000)=True:=eq_true hs
  have hc:((0:Int)≤45∧(45:Int)<256)=True:=eq_true (by decide)
  have hL:ak s 45=(bE 45 (tx s)).map ofTx:=rfl
  have tl:=Hj (ak s 45) (bE 45 (tx s)) hL lo hi (gA _ _)
  rw [decide_eq_false h,if_neg h,cond_false]
  simp only [hp,hc,if_true]
  have hz:=cM s
  by_cases h2:2<s.size
  ·rw [decide_eq_true (by omega),cond_true,if_pos (by omega),jb,e4247,xR]
   have hpre:[42,47].isPrefixOf (tx s)=decide (seg (tx s) (0:Int).toNat (2:Int).toNat=[42,47]):=by
    obtain ⟨a,b,l,e⟩:∃ a b l,tx s=a::b::l:=by
     cases q:tx s with
     | nil=>rw [q] at hz;have:s.size=0:=hz;omega
     | cons a l =>
      cases l with
      | nil=>rw [q] at hz;have:s.size=1:=hz;omega
      | cons b l=>exact ⟨a,b,l,rfl⟩
    have:seg (a::b::l) (0:Int).toNat (2:Int).toNat=[a,b]:=by simp [seg]
    have sw:∀ x y:UInt8,(x==y)=decide (y=x):=fun x y=>by
     by_cases h:y=x
     ·subst h;simp
     ·rw [decide_eq_false h,beq_eq_false_iff_ne];exact fun e=>h e.symm
    rw [e,this]
    simp [List.isPrefixOf,sw]
   rw [hpre]
   have hx:s.extract (2:Int).toNat (s.size:Int).toNat=ofTx ((tx s).drop 2):=by
    rw [kU]
    unfold seg
    rw [List.take_of_length_le (by omega)];rfl
   by_cases q:seg (tx s) (0:Int).toNat (2:Int).toNat=[42,47]
   ·rw [decide_eq_true q,cond_true,if_pos rfl,if_pos (by omega),hx]
    generalize ac (ofTx ((tx s).drop 2))=a
    obtain ⟨a,b⟩:=a
    cases b with
    | false=>exact ⟨_,rfl,by rw [if_neg (by simp)];exact rfl⟩
    | true =>
     refine ⟨_,rfl,?_⟩
     by_cases z:1≤a
     ·rw [decide_eq_true (show a≥1 from z),if_pos ⟨rfl,z⟩];exact rfl
     ·rw [decide_eq_false (show ¬ a≥1 from z),if_neg (fun h=>z h.2)];exact rfl
   ·rw [decide_eq_false q,cond_false,if_neg (by simp)]
    exact tl
  ·rw [decide_eq_false (by omega),cond_false]
   by_cases q:[42,47].isPrefixOf (tx s)=true
   ·rw [if_pos q]
    have e:tx s=[42,47]:=by
     cases w:tx s with
     | nil=>rw [w] at q;simp [List.isPrefixOf] at q
     | cons a l =>
      cases l with
      | nil=>rw [w] at q;simp [List.isPrefixOf] at q
      | cons b l =>
       cases l with
       | nil=>rw [w] at q;simp [List.isPrefixOf] at q;rw [← q.1, ← q.2]
       | cons c l=>rw [w] at hz;simp at hz;omega
    have hb:(ac (ofTx ((tx s).drop 2)))=(0,false):=by
     rw [e]
     show ac (ofTx [])=_
     unfold ac
     rw [if_neg (by decide)]
     have:¬ tx (be 0)=tx (ofTx []):=by
      unfold be Lib.itoa
      rw [if_neg (by omega),Lib.decDigits,dif_pos (by simp)]
      simp [tx,ofTx]
     show (if (1000000000:Int)<0 then _ else if _ then _ else _)=_
     rw [if_neg (by decide),if_neg this]
    rw [hb,if_neg (by simp)]
    obtain ⟨r,h1,h2⟩:=tl
    refine ⟨r,h1,?_⟩
    rw [e] at h2
    have hcut:bE 45 ([42,47]:List UInt8)=[[42,47]]:=qI (by decide)
    rw [hcut,wv] at h2
    have hb2:ac (ofTx [42,47])=(0,false):=vG (b:=42) (by rw [rt];simp) (by decide)
    simp only [hb2] at h2
    rw [if_neg (by simp)] at h2
    exact h2
   ·rw [if_neg q]
    exact tl
theorem zu (s:ByteArray) (lo hi:Int) (hs:s.size≤2000000):kX s lo hi=some (cC s lo hi)∧tt (cC s lo hi) (sb s lo hi):=by
 refine Cn ?_
 unfold kX sb
 have e42:tx (⟨#[42]⟩:ByteArray)=[42]:=rfl
 rw [jb,e42]
 by_cases h:tx s=[42]
 ·rw [decide_eq_true h,if_pos h];exact ⟨_,rfl,rfl⟩
 ·rw [decide_eq_false h,if_neg h,cond_false]
  have hp2:(bD s (⟨#[42,47]⟩:ByteArray)).2=[42,47].isPrefixOf (tx s):=rfl
  rw [hp2]
  by_cases q:[42,47].isPrefixOf (tx s)=true
  ·have hp1:(bD s (⟨#[42,47]⟩:ByteArray)).1=ofTx ((tx s).drop 2):=by
    show ofTx (Lib.trimPrefix (tx s) [42,47])=_
    unfold Lib.trimPrefix Lib.hasPrefix
    rw [if_pos q];rfl
   rw [q,cond_true,if_pos rfl,hp1]
   generalize ac (ofTx ((tx s).drop 2))=a
   obtain ⟨a,b⟩:=a
   cases b with
   | false=>exact ⟨_,rfl,by rw [if_neg (by simp)];exact rfl⟩
   | true =>
    refine ⟨_,rfl,?_⟩
    by_cases z:1≤a
    ·rw [decide_eq_true (show a≥1 from z),if_pos ⟨rfl,z⟩];exact rfl
    ·rw [decide_eq_false (show ¬ a≥1 from z),if_neg (fun h=>z h.2)];exact rfl
  ·rw [if_neg q]
   rw [Bool.not_eq_true] at q
   rw [q,cond_false,if_pos (by omega)]
   rcases Bh (tx s) 45 with ⟨h1,h2,h3⟩ | ⟨a,b,h1,h2,h3,h4⟩
   ·have c1:aE s (⟨#[45]⟩:ByteArray)=(s,ofTx [],false):=by
     show (ofTx (Lib.cut (tx s) [45]).1,ofTx (Lib.cut (tx s) [45]).2.1,(Lib.cut (tx s) [45]).2.2)=_
     rw [h2];rfl
    rw [c1,h3,wv]
    simp only [cond_false]
    rw [re]
    generalize ac s=a
    obtain ⟨a,b⟩:=a
    cases b with
    | false=>exact ⟨_,rfl,by rw [if_neg (by simp)];exact rfl⟩
    | true =>
     rw [cond_true]
     by_cases h1:lo≤a
     ·rw [decide_eq_true (show a≥lo from h1),cond_true,decide_eq_true (Int.le_refl _),cond_true]
      refine ⟨_,rfl,?_⟩
      by_cases h2:a≤hi
      ·rw [decide_eq_true h2,if_pos ⟨rfl,h1,h2⟩];exact rfl
      ·rw [decide_eq_false h2,if_neg (fun h=>h2 h.2.2)];exact rfl
     ·rw [decide_eq_false (show ¬ a≥lo from h1)]
      exact ⟨_,rfl,by rw [if_neg (fun h=>h1 h.2.1)];exact rfl⟩
   ·have c1:aE s (⟨#[45]⟩:ByteArray)=(ofTx a,ofTx b,true):=by
     show (ofTx (Lib.cut (tx s) [45]).1,ofTx (Lib.cut (tx s) [45]).2.1,(Lib.cut (tx s) [45]).2.2)=_
     rw [h3]
    rw [c1,h4]
    simp only [cond_true]
    by_cases hb:(45:UInt8)∈b
    ·have hr:ac (ofTx b)=(0,false):=vG (b:=45) (by rw [rt];exact hb) (by decide)
     have hm:∃ x y z,bE 45 b=x::y::z:=by
      rcases Bh b 45 with ⟨g,_⟩ | ⟨c,d,_,_,_,g⟩
      ·exact absurd hb g
      ·obtain ⟨y,z,e⟩:=gA 45 d
       exact ⟨c,y,z,by rw [g,e]⟩
     obtain ⟨x,y,z,e⟩:=hm
     rw [e,hr,Cm]
     cases (ac (ofTx a)).2 with
     | false=>exact ⟨_,rfl,rfl⟩
     | true=>exact ⟨_,rfl,rfl⟩
    ·rw [qI hb,Cl]
     generalize ac (ofTx a)=a
     generalize ac (ofTx b)=c
     obtain ⟨a,b⟩:=a
     obtain ⟨c,d⟩:=c
     cases b with
     | false=>exact ⟨_,rfl,by rw [if_neg (by simp)];exact rfl⟩
     | true =>
      cases d with
      | false=>exact ⟨_,rfl,by rw [if_neg (by simp)];exact rfl⟩
      | true =>
       rw [cond_true,cond_true]
       by_cases h1:lo≤a
       ·rw [decide_eq_true (show a≥lo from h1),cond_true]
        by_cases h3:a≤c
        ·rw [decide_eq_true h3,cond_true]
         refine ⟨_,rfl,?_⟩
         by_cases h2:c≤hi
         ·rw [decide_eq_true h2,if_pos ⟨rfl,rfl,h1,h3,h2⟩];exact rfl
         ·rw [decide_eq_false h2,if_neg (fun h=>h2 h.2.2.2.2)];exact rfl
        ·rw [decide_eq_false h3]
         exact ⟨_,rfl,by rw [if_neg (fun h=>h3 h.2.2.2.1)];exact rfl⟩
       ·rw [decide_eq_false (show ¬ a≥lo from h1)]
        exact ⟨_,rfl,by rw [if_neg (fun h=>h1 h.2.2.1)];exact rfl⟩
theorem Ip {s:ByteArray} {lo hi a b c:Int} (hlo:lo≤hi) (h:sb s lo hi=some (a,b,c)):lo≤a∧a≤b∧b≤hi∧1≤c∧c≤1000000000:=by
 unfold sb at h
 split at h
 ·cases h;exact ⟨Int.le_refl _,hlo,Int.le_refl _,Int.le_refl _,by decide⟩
 ·split at h
  ·split at h
   ·rename_i z
    have:=FT (ofTx ((tx s).drop 2))
    cases h
    exact ⟨Int.le_refl _,hlo,Int.le_refl _,z.2,this.2⟩
   ·cases h
  ·unfold rg at h
   split at h
   ·split at h
    ·rename_i z;cases h;exact ⟨z.2.1,Int.le_refl _,z.2.2,Int.le_refl _,by decide⟩
    ·cases h
   ·split at h
    ·rename_i z;cases h;exact ⟨z.2.2.1,z.2.2.2.1,z.2.2.2.2,Int.le_refl _,by decide⟩
    ·cases h
   ·cases h
theorem A4 (x0:ByteArray) (x1:Int) (x2:Int) (h:x0.size≤2000000):Does E 75 [.one (tS x0),.one (tI x1),.one (tI x2)] [(false,[tI ((cD x0 x1 x2).1)]),(false,[tI ((cD x0 x1 x2).2.1)]),(false,[tI ((cD x0 x1 x2).2.2.1)]),(false,[tB ((cD x0 x1 x2).2.2.2)])]:=by
 exact CH x0 x1 x2 _ (zw x0 x1 x2 h).1
theorem qz (x0:ByteArray) (x1:Int) (x2:Int) (h:x0.size≤2000000) {bb:Bool} (hbb:(cD x0 x1 x2).2.2.2=bb):Does E 75 [.one (tS x0),.one (tI x1),.one (tI x2)] [(false,[tI ((cD x0 x1 x2).1)]),(false,[tI ((cD x0 x1 x2).2.1)]),(false,[tI ((cD x0 x1 x2).2.2.1)]),(false,[tB bb])]:=by rw [← hbb];exact A4 x0 x1 x2 h
theorem C6 (x0:ByteArray) (x1:Int) (x2:Int) (h:x0.size≤2000000):Does E 91 [.one (tS x0),.one (tI x1),.one (tI x2)] [(false,[tI ((cC x0 x1 x2).1)]),(false,[tI ((cC x0 x1 x2).2.1)]),(false,[tI ((cC x0 x1 x2).2.2.1)]),(false,[tB ((cC x0 x1 x2).2.2.2)])]:=by
 exact DF x0 x1 x2 _ (zu x0 x1 x2 h).1
theorem sE (x0:ByteArray) (x1:Int) (x2:Int) (h:x0.size≤2000000) {bb:Bool} (hbb:(cC x0 x1 x2).2.2.2=bb):Does E 91 [.one (tS x0),.one (tI x1),.one (tI x2)] [(false,[tI ((cC x0 x1 x2).1)]),(false,[tI ((cC x0 x1 x2).2.1)]),(false,[tI ((cC x0 x1 x2).2.2.1)]),(false,[tB bb])]:=by rw [← hbb];exact C6 x0 x1 x2 h
noncomputable def kn (x0:Int):Option (Int×Int) :=
  cond (x0==(0:Int))
   (some ((0:Int),(59:Int)))
   (cond (x0==(1:Int))
    (some ((0:Int),(23:Int)))
    (cond (x0==(2:Int))
     (some ((1:Int),(31:Int)))
     (cond (x0==(3:Int))
      (some ((1:Int),(12:Int)))
      (some ((0:Int),(6:Int))))))
theorem FA (x0:Int):Ans (kn x0) (fun r=>Does E 90 [.one (tI x0)] [(false,[tI r.1]),(false,[tI r.2])]):=by
 unfold kn
 apply K0<;>intro h0
 ·exact KX (DP Tryz.f90 [.b true] (AC h0<|AN))
 ·apply K0<;>intro h1
  ·exact KX (DP Tryz.f90 [.b false,.b true] (AC h0<|AC h1<|AN))
  ·apply K0<;>intro h2
   ·exact KX (DP Tryz.f90 [.b false,.b false,.b true] (AC h0<|AC h1<|AC h2<|AN))
   ·apply K0<;>intro h3
    ·exact KX (DP Tryz.f90 [.b false,.b false,.b false,.b true] (AC h0<|AC h1<|AC h2<|AC h3<|AN))
    ·exact KX (DP Tryz.f90 [.b false,.b false,.b false,.b false] (AC h0<|AC h1<|AC h2<|AC h3<|AN))
noncomputable def az (i:Int):Int×Int:=(kn i).getD (0,0)
theorem E2 (i:Int):kn i=some (az i):=by
 refine Tot.getD ?_ _
 unfold kn
 repeat' (first | exact Tot.some _ | apply Tot.cond)
theorem Gg (i:Int):0≤(az i).1∧(az i).1≤(az i).2∧(az i).2≤59:=by
 unfold az kn
 cases i==0<;>cases i==1<;>cases i==2<;>cases i==3<;>exact ⟨by decide,by decide,by decide⟩
theorem bP (x0:Int):Does E 90 [.one (tI x0)] [(false,[tI ((az x0).1)]),(false,[tI ((az x0).2)])]:=by
 exact FA x0 _ (E2 x0)
inductive s8 where
 | x4 (v16:List Int)
def gE (v2:Int) (v8:List Bool) (v16:List Int) (v17:Int):US:=stL 70 [(2,.one (tI v2)),(8,.one (.s .own () 1 (v8.map etB))),(16,.one (.s .own () 1 (v16.map etI))),(17,.one (tI v17))]
def mG (zv16:List Int):US:=stL 70 [(16,.one (.s .own () 1 (zv16.map etI)))]
abbrev oa:US→Exit→US→Prop:=Round E 59 (aw Tryz.f59 2)
def Au (v2:Int) (v8:List Bool) (v16:List Int) (v17:Int):s8→Prop
 | .x4 zv16=>Loops E 59 (aw Tryz.f59 2) (gE v2 v8 v16 v17) (.exit 4) (mG zv16)
noncomputable def eM (v2:Int) (v8:List Bool):Nat→(List Int)→Int→Option s8
 | 0,_,_=>none
 | n+1,v16,v17=>cond (decide (v17≤v2))
  ((aA v8 v17).bind fun g0=>cond (g0)
   (if (v16.length+([v17]).length)*8≤140737488355328∧v16.length+([v17]).length≤4611686018427387904 then eM v2 v8 n (v16++([v17])) (inc v17) else none)
   (eM v2 v8 n v16 (inc v17)))
  (some (.x4 v16))
theorem Ar (v2:Int) (v8:List Bool) (n:Nat):∀ (v16:List Int) (v17:Int),Ans (eM v2 v8 n v16 v17) (Au v2 v8 v16 v17):=by
 induction n with
 | zero=>intros;exact Ans.none
 | succ n ih =>
  intro v16 v17
  unfold eM
  apply K0<;>intro h0
  ·refine K1 (fun g0 h1 => ?_)
   apply K0<;>intro h2
   ·refine K2 (fun h3 => ?_)
    have r:oa (gE v2 v8 v16 v17) .normal (gE v2 v8 (v16++([v17])) (inc v17)):=RP [.b true,.row ([tB true]),.rows ((v16++([v17])).map etI)] (AC h0<|AC (p:=0≤v17∧v17<((v8.map etB).length:Int)) (jx h1)<|AC (p:=(v8.map etB)[0+v17.toNat]?=some ([tB true])) ((eH h1).trans (congrArg some (show [tB g0]=[tB true] by rw [h2])))<|AAp etI (fun _=>rfl) h3<|AN);exact (ih (v16++([v17])) (inc v17)).mono fun y hy=>by cases y<;>exact KY r hy
   ·have r:oa (gE v2 v8 v16 v17) .normal (gE v2 v8 v16 (inc v17)):=RP [.b true,.row ([tB false])] (AC h0<|AC (p:=0≤v17∧v17<((v8.map etB).length:Int)) (jx h1)<|AC (p:=(v8.map etB)[0+v17.toNat]?=some ([tB false])) ((eH h1).trans (congrArg some (show [tB g0]=[tB false] by rw [h2])))<|AN);exact (ih v16 (inc v17)).mono fun y hy=>by cases y<;>exact KY r hy
  ·exact KX (KZ (show oa (gE v2 v8 v16 v17) (.exit 4) (mG v16) from RP [.b false] (AC h0<|AN)) (by intro h;cases h))
inductive s7 where
 | x2 (v8:List Bool)
def lk (v1 v2:Int) (v8:List Bool) (v9:List ByteArray) (v10 v12 v13 v15:Int):US:=stL 70 [(1,.one (tI v1)),(2,.one (tI v2)),(8,.one (.s .own () 1 (v8.map etB))),(9,.one (.s .own () 1 (v9.map etS))),(10,.one (tI v10)),(12,.one (tI v12)),(13,.one (tI v13)),(15,.one (tI v15))]
def mF (v1 v2:Int) (v9:List ByteArray) (v10:Int) (zv8:List Bool):US:=stL 70 [(1,.one (tI v1)),(2,.one (tI v2)),(8,.one (.s .own () 1 (zv8.map etB))),(9,.one (.s .own () 1 (v9.map etS))),(10,.one (tI v10))]
abbrev sZ:US→Exit→US→Prop:=Round E 59 (aw Tryz.f59 1)
def At (v1 v2:Int) (v8:List Bool) (v9:List ByteArray) (v10 v12 v13 v15:Int):s7→Prop
 | .x2 zv8=>Loops E 59 (aw Tryz.f59 1) (lk v1 v2 v8 v9 v10 v12 v13 v15) (.exit 2) (mF v1 v2 v9 v10 zv8)
noncomputable def gF (v12 v13:Int):Nat→(List Bool)→Int→Option s7
 | 0,_,_=>none
 | n+1,v8,v15=>cond (decide (v15≤v12))
  ((aA v8 v15).bind fun g0=>gF v12 v13 n (v8.set v15.toNat true) (IntKind.wrap .i64 (v15+v13)))
  (some (.x2 v8))
theorem Aq (v1 v2:Int) (v9:List ByteArray) (v10 v12 v13:Int) (n:Nat):∀ (v8:List Bool) (v15:Int),Ans (gF v12 v13 n v8 v15) (At v1 v2 v8 v9 v10 v12 v13 v15):=by
 induction n with
 | zero=>intros;exact Ans.none
 | succ n ih =>
  intro v8 v15
  unfold gF
  apply K0<;>intro h0
  ·refine K1 (fun g0 h1 => ?_)
   have r:sZ (lk v1 v2 v8 v9 v10 v12 v13 v15) .normal (lk v1 v2 (v8.set v15.toNat true) v9 v10 v12 v13 (IntKind.wrap .i64 (v15+v13))):=RP [.b true,.row (etB g0),.rows ((v8.set v15.toNat true).map etB)] (AC h0<|AG etB h1<|AC (p:=(v8.map etB).set (0+v15.toNat) (ar (etB g0) 0 [tB true])=(v8.set v15.toNat true).map etB) (ed (by rfl))<|AN);exact (ih (v8.set v15.toNat true) (IntKind.wrap .i64 (v15+v13))).mono fun y hy=>by cases y<;>exact KY r hy
  ·exact KX (KZ (show sZ (lk v1 v2 v8 v9 v10 v12 v13 v15) (.exit 2) (mF v1 v2 v9 v10 v8) from RP [.b false] (AC h0<|AN)) (by intro h;cases h))
inductive s6 where
 | ret (v6:List Int) (v7:Bool)
 | x0 (v8:List Bool)
def gD (v1 v2:Int) (v8:List Bool) (v9:List ByteArray) (v10:Int):US:=stL 70 [(1,.one (tI v1)),(2,.one (tI v2)),(8,.one (.s .own () 1 (v8.map etB))),(9,.one (.s .own () 1 (v9.map etS))),(10,.one (tI v10))]
def lF (zv6:List Int) (zv7:Bool):US:=stL 70 [(6,.one (.s .own () 1 (zv6.map etI))),(7,.one (tB zv7))]
def mE (v1 v2:Int) (zv8:List Bool):US:=stL 70 [(1,.one (tI v1)),(2,.one (tI v2)),(8,.one (.s .own () 1 (zv8.map etB)))]
abbrev nZ:US→Exit→US→Prop:=Round E 59 (aw Tryz.f59 0)
def As (v1 v2:Int) (v8:List Bool) (v9:List ByteArray) (v10:Int):s6→Prop
 | .ret zv6 zv7=>Loops E 59 (aw Tryz.f59 0) (gD v1 v2 v8 v9 v10) .ret (lF zv6 zv7)
 | .x0 zv8=>Loops E 59 (aw Tryz.f59 0) (gD v1 v2 v8 v9 v10) (.exit 0) (mE v1 v2 zv8)
noncomputable def dR (v1 v2:Int):List ByteArray→Nat→(List Bool)→Option s6
 | [],i,v8=>some (.x0 v8)
 | hd::rest,i,v8=>if hd.size≤2000000 then cond ((cD hd v1 v2).2.2.2)
  ((gF ((cD hd v1 v2).2.1) ((cD hd v1 v2).2.2.1) 9223372036854775808 v8 ((cD hd v1 v2).1)).bind fun y=>match y with
   | .x2 w0_8=>(dR v1 v2 rest (i+1) w0_8))
  (some (.ret ([]) false)) else none
theorem Ap (v1 v2:Int) (v9:List ByteArray) (rest:List ByteArray):∀ (i:Nat) (v8:List Bool),(v9).drop i=rest→v9.length≤9223372036854775807→Ans (dR v1 v2 rest i v8) (As v1 v2 v8 v9 (i:Int)):=by
 induction rest with
 | nil =>
  intro i v8 hE hl
  have hb:=bo hE
  unfold dR
  exact KX (KZ (show nZ (gD v1 v2 v8 v9 (i:Int)) (.exit 0) (mE v1 v2 v8) from RP [.val (.int .i64 (v9.length:Int)),.b false] (ALn v9 etS<|AC hb<|AN)) (by intro h;cases h))
 | cons hd rest ih =>
  intro i v8 hE hl
  have hb:=aY hE
  have hw:=aZ hE hl
  have hE2:=aH hE
  have hg:=bc hE
  unfold dR
  refine K2 (fun h2 => ?_)
  apply K0<;>intro h3
  ·refine K1 (fun y hy => ?_)
   replace hy:=Aq v1 v2 v9 (i:Int) ((cD hd v1 v2).2.1) ((cD hd v1 v2).2.2.1) 9223372036854775808 v8 ((cD hd v1 v2).1) y hy
   cases y with
   | x2 w0_8 =>
    have h4:=hy
    exact (ih (i+1) w0_8 hE2 hl).mono fun y hy=>by have r:nZ (gD v1 v2 v8 v9 (i:Int)) .normal (gD v1 v2 w0_8 v9 (inc (i:Int))):=RP [.val (.int .i64 (v9.length:Int)),.b true,.row (etS hd),.ret [(false,[tI ((cD hd v1 v2).1)]),(false,[tI ((cD hd v1 v2).2.1)]),(false,[tI ((cD hd v1 v2).2.2.1)]),(false,[tB true])],.lp (.exit 2) (mF v1 v2 v9 (i:Int) w0_8)] (ALn v9 etS<|AC hb<|AG etS hg<|AD (qz hd v1 v2 h2 h3)<|AL h4<|AN);rw [hw] at r;cases y<;>exact KY r hy
  ·exact KX (KZ (show nZ (gD v1 v2 v8 v9 (i:Int)) .ret (lF ([]) false) from RP [.val (.int .i64 (v9.length:Int)),.b true,.row (etS hd),.ret [(false,[tI ((cD hd v1 v2).1)]),(false,[tI ((cD hd v1 v2).2.1)]),(false,[tI ((cD hd v1 v2).2.2.1)]),(false,[tB false])]] (ALn v9 etS<|AC hb<|AG etS hg<|AD (qz hd v1 v2 h2 h3)<|AN)) (by intro h;cases h))
noncomputable def gq (x0:ByteArray) (x1 x2:Int):Option ((List Int)×Bool) :=
  if 0≤(inc x2)∧(inc x2)≤(inc x2)∧((1:Nat):Int)*(inc x2)≤281474976710656∧(inc x2)≤4611686018427387904 then if x0.size≤2000000 then if 0≤(44:Int)∧(44:Int)<256 then if (ak x0 (44:Int)).length≤9223372036854775807 then (dR x1 x2 (ak x0 (44:Int)) 0 (List.replicate (inc x2).toNat false)).bind fun y=>match y with
   | .ret w0_6 w0_7=>(some (w0_6,w0_7))
   | .x0 w0_8=>((eM x2 w0_8 9223372036854775808 ([]) x1).bind fun y=>match y with
    | .x4 w1_16=>(some (w1_16,true))) else none else none else none else none
theorem CE (x0:ByteArray) (x1 x2:Int):Ans (gq x0 x1 x2) (fun r=>Does E 59 [.one (tS x0),.one (tI x1),.one (tI x2)] [(false,[.s .own () 1 (r.1.map etI)]),(false,[tB r.2])]):=by
 unfold gq
 refine K2 (fun h0 => ?_)
 refine K2 (fun h1 => ?_)
 refine K2 (fun h2 => ?_)
 refine K2 (fun hl1 => ?_)
 refine K1 (fun y hy => ?_)
 replace hy:=Ap x1 x2 (ak x0 (44:Int)) (ak x0 (44:Int)) 0 (List.replicate (inc x2).toNat false) rfl hl1 y hy
 cases y with
 | ret w0_6 w0_7 =>
  have h3:=hy
  exact KX (DP Tryz.f59 [.rows ((List.replicate (inc x2).toNat false).map etB),.ret [(false,[.s .own () 1 ((ak x0 (44:Int)).map etS)])],.lp .ret (lF w0_6 w0_7)] (AC h0<|AC (p:=List.replicate (inc x2).toNat [tB false]=(List.replicate (inc x2).toNat false).map etB) (pj rfl)<|AD (aP x0 (44:Int) h1 h2)<|AL h3<|AN))
 | x0 w0_8 =>
  have h3:=hy
  refine K1 (fun y hy => ?_)
  replace hy:=Ar x2 w0_8 9223372036854775808 ([]) x1 y hy
  cases y with
  | x4 w1_16 =>
   have h4:=hy
   exact KX (DP Tryz.f59 [.rows ((List.replicate (inc x2).toNat false).map etB),.ret [(false,[.s .own () 1 ((ak x0 (44:Int)).map etS)])],.lp (.exit 0) (mE x1 x2 w0_8),.lp (.exit 4) (mG w1_16)] (AC h0<|AC (p:=List.replicate (inc x2).toNat [tB false]=(List.replicate (inc x2).toNat false).map etB) (pj rfl)<|AD (aP x0 (44:Int) h1 h2)<|AL h3<|AL h4<|AN))
inductive pP where
 | x2 (v8:List Int)
def jB (v6 v7:Int) (v8:List Int) (v12 v13 v15:Int) (v22:List ByteArray) (v23 v24:Int):US:=stL 56 [(6,.one (tI v6)),(7,.one (tI v7)),(8,.one (.s .own () 1 (v8.map etI))),(12,.one (tI v12)),(13,.one (tI v13)),(15,.one (tI v15)),(22,.one (.s .own () 1 (v22.map etS))),(23,.one (tI v23)),(24,.one (tI v24))]
def kL (v6 v7:Int) (v22:List ByteArray) (v23 v24:Int) (zv8:List Int):US:=stL 56 [(6,.one (tI v6)),(7,.one (tI v7)),(8,.one (.s .own () 1 (zv8.map etI))),(22,.one (.s .own () 1 (v22.map etS))),(23,.one (tI v23)),(24,.one (tI v24))]
abbrev pN:US→Exit→US→Prop:=Round E 80 (aw Tryz.f80 1)
def xm (v6 v7:Int) (v8:List Int) (v12 v13 v15:Int) (v22:List ByteArray) (v23 v24:Int):pP→Prop
 | .x2 zv8=>Loops E 80 (aw Tryz.f80 1) (jB v6 v7 v8 v12 v13 v15 v22 v23 v24) (.exit 2) (kL v6 v7 v22 v23 v24 zv8)
noncomputable def fv (v12 v13:Int):Nat→(List Int)→Int→Option pP
 | 0,_,_=>none
 | n+1,v8,v15=>cond (decide (v15≤v12))
  (if (v8.length+([v15]).length)*8≤140737488355328∧v8.length+([v15]).length≤4611686018427387904 then fv v12 v13 n (v8++([v15])) (IntKind.wrap .i64 (v15+v13)) else none)
  (some (.x2 v8))
theorem xk (v6 v7 v12 v13:Int) (v22:List ByteArray) (v23 v24:Int) (n:Nat):∀ (v8:List Int) (v15:Int),Ans (fv v12 v13 n v8 v15) (xm v6 v7 v8 v12 v13 v15 v22 v23 v24):=by
 induction n with
 | zero=>intros;exact Ans.none
 | succ n ih =>
  intro v8 v15
  unfold fv
  apply K0<;>intro h0
  ·refine K2 (fun h1 => ?_)
   have r:pN (jB v6 v7 v8 v12 v13 v15 v22 v23 v24) .normal (jB v6 v7 (v8++([v15])) v12 v13 (IntKind.wrap .i64 (v15+v13)) v22 v23 v24):=RP [.b true,.rows ((v8++([v15])).map etI)] (AC h0<|AAp etI (fun _=>rfl) h1<|AN);exact (ih (v8++([v15])) (IntKind.wrap .i64 (v15+v13))).mono fun y hy=>by cases y<;>exact KY r hy
  ·exact KX (KZ (show pN (jB v6 v7 v8 v12 v13 v15 v22 v23 v24) (.exit 2) (kL v6 v7 v22 v23 v24 v8) from RP [.b false] (AC h0<|AN)) (by intro h;cases h))
inductive pO where
 | ret (v4:List Int) (v5:Bool)
 | x0 (v8:List Int)
def fu (v6 v7:Int) (v8:List Int) (v22:List ByteArray) (v23 v24:Int):US:=stL 56 [(6,.one (tI v6)),(7,.one (tI v7)),(8,.one (.s .own () 1 (v8.map etI))),(22,.one (.s .own () 1 (v22.map etS))),(23,.one (tI v23)),(24,.one (tI v24))]
def jR (zv4:List Int) (zv5:Bool):US:=stL 56 [(4,.one (.s .own () 1 (zv4.map etI))),(5,.one (tB zv5))]
def kK (zv8:List Int):US:=stL 56 [(8,.one (.s .own () 1 (zv8.map etI)))]
abbrev ml:US→Exit→US→Prop:=Round E 80 (aw Tryz.f80 0)
def xl (v6 v7:Int) (v8:List Int) (v22:List ByteArray) (v23 v24:Int):pO→Prop
 | .ret zv4 zv5=>Loops E 80 (aw Tryz.f80 0) (fu v6 v7 v8 v22 v23 v24) .ret (jR zv4 zv5)
 | .x0 zv8=>Loops E 80 (aw Tryz.f80 0) (fu v6 v7 v8 v22 v23 v24) (.exit 0) (kK zv8)
noncomputable def cS (v6 v7:Int):List ByteArray→Nat→(List Int)→Option pO
 | [],i,v8=>some (.x0 v8)
 | hd::rest,i,v8=>if hd.size≤2000000 then cond ((cC hd v6 v7).2.2.2)
  ((fv ((cC hd v6 v7).2.1) ((cC hd v6 v7).2.2.1) 9223372036854775808 v8 ((cC hd v6 v7).1)).bind fun y=>match y with
   | .x2 w0_8=>(cS v6 v7 rest (i+1) w0_8))
  (some (.ret ([]) false)) else none
theorem xj (v6 v7:Int) (v22:List ByteArray) (rest:List ByteArray):∀ (i:Nat) (v8:List Int),(v22).drop i=rest→v22.length≤9223372036854775807→Ans (cS v6 v7 rest i v8) (xl v6 v7 v8 v22 (v22.length:Int) (i:Int)):=by
 induction rest with
 | nil =>
  intro i v8 hE hl
  have hb:=bo hE
  unfold cS
  exact KX (KZ (show ml (fu v6 v7 v8 v22 (v22.length:Int) (i:Int)) (.exit 0) (kK v8) from RP [.b false] (AC hb<|AN)) (by intro h;cases h))
 | cons hd rest ih =>
  intro i v8 hE hl
  have hb:=aY hE
  have hw:=aZ hE hl
  have hE2:=aH hE
  have hg:=bc hE
  unfold cS
  refine K2 (fun h2 => ?_)
  apply K0<;>intro h3
  ·refine K1 (fun y hy => ?_)
   replace hy:=xk v6 v7 ((cC hd v6 v7).2.1) ((cC hd v6 v7).2.2.1) v22 (v22.length:Int) (i:Int) 9223372036854775808 v8 ((cC hd v6 v7).1) y hy
   cases y with
   | x2 w0_8 =>
    have h4:=hy
    exact (ih (i+1) w0_8 hE2 hl).mono fun y hy=>by have r:ml (fu v6 v7 v8 v22 (v22.length:Int) (i:Int)) .normal (fu v6 v7 w0_8 v22 (v22.length:Int) (inc (i:Int))):=RP [.b true,.row (etS hd),.ret [(false,[tI ((cC hd v6 v7).1)]),(false,[tI ((cC hd v6 v7).2.1)]),(false,[tI ((cC hd v6 v7).2.2.1)]),(false,[tB true])],.lp (.exit 2) (kL v6 v7 v22 (v22.length:Int) (i:Int) w0_8)] (AC hb<|AG etS hg<|AD (sE hd v6 v7 h2 h3)<|AL h4<|AN);rw [hw] at r;cases y<;>exact KY r hy
  ·exact KX (KZ (show ml (fu v6 v7 v8 v22 (v22.length:Int) (i:Int)) .ret (jR ([]) false) from RP [.b true,.row (etS hd),.ret [(false,[tI ((cC hd v6 v7).1)]),(false,[tI ((cC hd v6 v7).2.1)]),(false,[tI ((cC hd v6 v7).2.2.1)]),(false,[tB false])]] (AC hb<|AG etS hg<|AD (sE hd v6 v7 h2 h3)<|AN)) (by intro h;cases h))
noncomputable def fY (x0:ByteArray) (x1:Int):Option ((List Int)×Bool) :=
  if x0.size<4294967281 then if 1≤(⟨#[44]⟩:ByteArray).size then if (dv x0 (⟨#[44]⟩:ByteArray)).length≤9223372036854775807 then (cS ((az x1).1) ((az x1).2) (dv x0 (⟨#[44]⟩:ByteArray)) 0 ([])).bind fun y=>match y with
   | .ret w0_4 w0_5=>(some (w0_4,w0_5))
   | .x0 w0_8=>(if w0_8.length<4611686018427387904 then if (dr w0_8).length≤9223372036854775807 then some (id (hJ (dr w0_8)),true) else none else none) else none else none else none
theorem yq (x0:ByteArray) (x1:Int):Ans (fY x0 x1) (fun r=>Does E 80 [.one (tS x0),.one (tI x1)] [(false,[.s .own () 1 (r.1.map etI)]),(false,[tB r.2])]):=by
 unfold fY
 refine K2 (fun h0 => ?_)
 refine K2 (fun h1 => ?_)
 refine K2 (fun hl1 => ?_)
 refine K1 (fun y hy => ?_)
 replace hy:=xj ((az x1).1) ((az x1).2) (dv x0 (⟨#[44]⟩:ByteArray)) (dv x0 (⟨#[44]⟩:ByteArray)) 0 ([]) rfl hl1 y hy
 cases y with
 | ret w0_4 w0_5 =>
  have h2:=hy
  exact KX (DP Tryz.f80 [.ret [(false,[tI ((az x1).1)]),(false,[tI ((az x1).2)])],.ret [(false,[.s .own () 1 ((dv x0 (⟨#[44]⟩:ByteArray)).map etS)])],.val (.int .i64 ((dv x0 (⟨#[44]⟩:ByteArray)).length:Int)),.lp .ret (jR w0_4 w0_5)] (AD (bP x1)<|AD (jw x0 (⟨#[44]⟩:ByteArray) h0 h1)<|ALn (dv x0 (⟨#[44]⟩:ByteArray)) etS<|AL h2<|AN))
 | x0 w0_8 =>
  have h2:=hy
  refine K2 (fun h3 => ?_)
  refine K2 (fun h4 => ?_)
  exact KX (DP Tryz.f80 [.ret [(false,[tI ((az x1).1)]),(false,[tI ((az x1).2)])],.ret [(false,[.s .own () 1 ((dv x0 (⟨#[44]⟩:ByteArray)).map etS)])],.val (.int .i64 ((dv x0 (⟨#[44]⟩:ByteArray)).length:Int)),.lp (.exit 0) (kK w0_8),.ret [(false,[.s .own () 1 ((dr w0_8).map etI)])],.ret [(false,[.any]),(false,[.s .own () 1 ((hJ (dr w0_8)).map etI)])],.ret [(false,[.any]),(false,[.s .own () 1 ((id (hJ (dr w0_8))).map etI)])]] (AD (bP x1)<|AD (jw x0 (⟨#[44]⟩:ByteArray) h0 h1)<|ALn (dv x0 (⟨#[44]⟩:ByteArray)) etS<|AL h2<|AC (p:=(w0_8.map etI).length=(w0_8.map etI).length) rfl<|AV (ψ:=fun k=>E.C k 86 [.one (.s .own () 1 (w0_8.map etI))]=some [(false,[.s .own () 1 ((dr w0_8).map etI)])]) (oh w0_8 h3)<|AV (ψ:=fun k=>E.C k 93 [.one (.s .own () 1 ((dr w0_8).map etI))]=some [(false,[.any]),(false,[.s .own () 1 ((hJ (dr w0_8)).map etI)])]) (rA (dr w0_8) h4)<|AV (ψ:=fun k=>E.C k 92 [.one (.s .own () 1 ((hJ (dr w0_8)).map etI))]=some [(false,[.any]),(false,[.s .own () 1 ((id (hJ (dr w0_8))).map etI)])]) (u7 (hJ (dr w0_8)))<|AN))
def Marks (lo hi:Int) (has:List Bool) (l:List Int):Prop :=
 (has.length:Int)=hi+1∧(∀ x∈l,lo≤x∧x≤hi)∧∀ j:Nat,(j:Int)≤hi→(has[j]?=some true↔(j:Int)∈l)
theorem Marks.add {lo hi:Int} {has:List Bool} {l:List Int} (h:Marks lo hi has l) (h0:0≤lo) {x:Int} (hx:lo≤x∧x≤hi):Marks lo hi (has.set x.toNat true) (l++[x]):=by
 obtain ⟨h1,h2,h3⟩:=h
 refine ⟨by rw [List.length_set];exact h1,fun y hy => ?_,fun j hj => ?_⟩
 ·rcases List.mem_append.1 hy with hy | hy
  ·exact h2 y hy
  ·rw [List.mem_singleton] at hy;subst hy;exact hx
 ·rw [List.mem_append,List.mem_singleton,List.getElem?_set]
  by_cases e:x.toNat=j
  ·rw [if_pos e,if_pos (by omega)]
   exact ⟨fun _ => .inr (by omega),fun _=>rfl⟩
  ·rw [if_neg e,h3 j hj]
   exact ⟨.inl,fun h=>h.resolve_right (by omega)⟩
theorem Cw (lo hi b st:Int) (h0:0≤lo) (hhi:hi≤59) (hb:b≤hi) (h1:1≤st) (h2:st≤1000000000):∀ (k n:Nat) (a:Int) (has:List Bool) (l:List Int),(b-a+1).toNat≤k→k<n→lo≤a→a≤1000000100→Marks lo hi has l→l.length+k≤1000000000 →
  ∃ has' l',gF b st n has a=some (.x2 has')∧fv b st n l a=some (.x2 l')∧Marks lo hi has' l'∧l'.length≤l.length+k∧(a≤b∨l≠[]→l'≠[])
 | k,0,a,has,l,_,hn,_,_,_,_=>by omega
 | k,n+1,a,has,l,hk,hn,ha,ha',hM,hl=>by
  unfold gF fv
  by_cases q:a≤b
  ·obtain ⟨g,hg,_⟩:=lR (l:=has) (k:=a) (by have:=hM.1;omega)
   obtain ⟨k,rfl⟩:∃ j,k=j+1:=⟨k-1,by omega⟩
   have e:IntKind.wrap .i64 (a+st)=a+st:=du _ (by omega) (by omega)
   obtain ⟨has',l',e1,e2,e3,e4,e5⟩:=Cw lo hi b st h0 hhi hb h1 h2 k n (a+st) (has.set a.toNat true) (l++[a]) (by omega) (by omega) (by omega) (by omega) (hM.add h0 (by omega)) (by simp;omega)
   refine ⟨has',l',?_,?_,e3,by simp at e4;omega,fun _=>e5 (.inr (by simp))⟩
   ·rw [decide_eq_true q,cond_true,hg,Option.bind_some,e];exact e1
   ·rw [decide_eq_true q,cond_true,if_pos (by simp;omega),e];exact e2
  ·rw [decide_eq_false q]
   exact ⟨has,l,rfl,rfl,hM,by omega,fun h=>h.resolve_left q⟩
theorem vq (lo hi:Int) (h0:0≤lo) (hlh:lo≤hi) (hhi:hi≤59):∀ (ps:List ByteArray) (i:Nat) (has:List Bool) (l:List Int),(∀ p∈ps,p.size≤2000000)→Marks lo hi has l→l.length+ps.length*60≤1000000000 →
  (dR lo hi ps i has=some (.ret [] false)∧cS lo hi ps i l=some (.ret [] false)) ∨
  ∃ has' l',dR lo hi ps i has=some (.x0 has')∧cS lo hi ps i l=some (.x0 l')∧Marks lo hi has' l'∧l'.length≤l.length+ps.length*60∧(ps≠[]∨l≠[]→l'≠[])
 | [],i,has,l,_,hM,_ => .inr ⟨has,l,rfl,rfl,hM,by simp,fun h=>h.resolve_left fun h=>h rfl⟩
 | p::ps,i,has,l,hp,hM,hl=>by
  have hq:=hp p (by simp)
  obtain ⟨-,r1⟩:=zw p lo hi hq
  obtain ⟨-,r2⟩:=zu p lo hi hq
  unfold dR cS
  simp only [if_pos hq]
  cases e:sb p lo hi with
  | none =>
   rw [e] at r1 r2
   have r1:(cD p lo hi).2.2.2=false:=r1
   have r2:(cC p lo hi).2.2.2=false:=r2
   rw [r1,r2]
   exact .inl ⟨rfl,rfl⟩
  | some x =>
   obtain ⟨a,b,st⟩:=x
   rw [e] at r1 r2
   have r1:cD p lo hi=(a,b,st,true):=r1
   have r2:cC p lo hi=(a,b,st,true):=r2
   obtain ⟨a1,a2,a3,a4,a5⟩:=Ip hlh e
   simp only [List.length_cons] at hl
   obtain ⟨has',l',e1,e2,e3,e4,e5⟩:=Cw lo hi b st h0 hhi a3 a4 a5 60 9223372036854775808 a has l (by omega) (by omega) a1 (by omega) hM (by omega)
   rw [r1,r2]
   simp only [cond_true,e1,e2,Option.bind_some]
   rcases vq lo hi h0 hlh hhi ps (i+1) has' l' (fun p hp'=>hp p (by simp [hp'])) e3 (by omega) with h | ⟨has2,l2,g1,g2,g3,g4,g5⟩
   ·exact .inl h
   ·exact .inr ⟨has2,l2,g1,g2,g3,by rw [List.length_cons];omega,fun _=>g5 (.inr (e5 (.inl a2)))⟩
theorem FR (hi:Int) (has:List Bool) (hh:(has.length:Int)=hi+1) (hhi:hi≤59):∀ (k n:Nat) (x:Int) (v:List Int),(hi-x+1).toNat≤k→k<n→0≤x→x≤100→v.length+k≤1000→v.Pairwise (· < ·)→(∀ y∈v,y<x) →
  ∃ w,eM hi has n v x=some (.x4 w)∧w.Pairwise (· < ·)∧∀ y,y∈w↔y∈v∨(x≤y∧y≤hi∧has[y.toNat]?=some true)
 | k,0,x,v,_,hn,_,_,_,_,_=>by omega
 | k,n+1,x,v,hk,hn,hx,hx',hl,hp,hm=>by
  unfold eM
  by_cases q:x≤hi
  ·obtain ⟨g,hg,_⟩:=lR (l:=has) (k:=x) (by omega)
   have hg':=(lS hg).2
   obtain ⟨k,rfl⟩:∃ j,k=j+1:=⟨k-1,by omega⟩
   have e:inc x=x+1:=fa _ (by omega) (by omega)
   rw [decide_eq_true q,cond_true,hg,Option.bind_some]
   cases g with
   | true =>
    obtain ⟨w,w1,w2,w3⟩:=FR hi has hh hhi k n (x+1) (v++[x]) (by omega) (by omega) (by omega) (by omega) (by simp;omega)
     (by rw [List.pairwise_append];exact ⟨hp,by simp,fun a ha b hb=>by rw [List.mem_singleton] at hb;subst hb;exact hm a ha⟩)
     (fun y hy=>by rcases List.mem_append.1 hy with h | h;have:=hm y h;omega;rw [List.mem_singleton] at h;omega)
    refine ⟨w,by rw [cond_true,if_pos (by simp;omega),e];exact w1,w2,fun y => ?_⟩
    rw [w3,List.mem_append,List.mem_singleton]
    constructor
    ·rintro ((h | rfl) | h)
     ·exact .inl h
     ·exact .inr ⟨Int.le_refl _,q,hg'⟩
     ·exact .inr ⟨by omega,h.2⟩
    ·rintro (h | h)
     ·exact .inl (.inl h)
     ·by_cases z:y=x
      ·exact .inl (.inr z)
      ·exact .inr ⟨by omega,h.2⟩
   | false =>
    obtain ⟨w,w1,w2,w3⟩:=FR hi has hh hhi k n (x+1) v (by omega) (by omega) (by omega) (by omega) (by omega) hp (fun y hy=>by have:=hm y hy;omega)
    refine ⟨w,by rw [cond_false,e];exact w1,w2,fun y => ?_⟩
    rw [w3]
    constructor
    ·rintro (h | h)
     ·exact .inl h
     ·exact .inr ⟨by omega,h.2⟩
    ·rintro (h | h)
     ·exact .inl h
     ·by_cases z:y=x
      ·subst z;rw [hg'] at h;exact absurd h.2.2 (by simp)
      ·exact .inr ⟨by omega,h.2⟩
  ·rw [decide_eq_false q]
   exact ⟨v,rfl,hp,fun y=>⟨.inl,fun h=>h.resolve_right fun h=>by omega⟩⟩
theorem sg (lo hi:Int):∀ (l:List Int) (a:Int),l.Pairwise (· < ·)→(∀ x∈l,a≤x∧x≤hi)→a≤hi+1→(l.length:Int)≤hi+1-a
 | [],a,_,_,h=>by simp;omega
 | x::l,a,hp,hm,h=>by
  rw [List.pairwise_cons] at hp
  have:=hm x (by simp)
  have:=sg lo hi l (x+1) hp.2 (fun y hy=>⟨by have:=hp.1 y hy;omega,(hm y (by simp [hy])).2⟩) (by omega)
  simp;omega
noncomputable def ag (s:ByteArray) (lo hi:Int):List Int×Bool:=(gq s lo hi).getD ([],false)
noncomputable def aL (s:ByteArray) (i:Int):List Int×Bool:=ag s (az i).1 (az i).2
def Gb (lo hi:Int) (r:List Int×Bool):Prop:=(r.2=false∧r.1=[])∨(r.2=true∧r.1.Pairwise (· < ·)∧r.1≠[]∧(∀ x∈r.1,lo≤x∧x≤hi)∧r.1.length≤60)
theorem wa (s:ByteArray) (lo hi:Int) (hs:s.size≤2000000) (hb:0≤lo∧lo≤hi∧hi≤59):gq s lo hi=some (ag s lo hi)∧Gb lo hi (ag s lo hi)∧∀ i,az i=(lo,hi)→fY s i=some (ag s lo hi):=by
 obtain ⟨h0,hlh,hhi⟩:=hb
 have hinc:inc hi=hi+1:=fa _ (by omega) (by omega)
 have hl:=vX 44 (tx s)
 rw [← cM] at hl
 have hL:ak s 44=(bE 44 (tx s)).map ofTx:=rfl
 have hlen:(ak s 44).length≤2000001:=by rw [hL,List.length_map];omega
 have hpz:∀ p∈ak s 44,p.size≤2000000:=fun p hp=>by
  rw [hL] at hp
  obtain ⟨x,hx,rfl⟩:=List.mem_map.1 hp
  have:=vY _ _ x hx
  rw [nH]
  rw [← cM] at this
  omega
 have hM:Marks lo hi (List.replicate (inc hi).toNat false) []:=by
  refine ⟨by rw [List.length_replicate,hinc];omega,fun x hx=>(by cases hx),fun j hj => ?_⟩
  rw [List.getElem?_replicate,if_pos (by omega)]
  simp
 have hne:ak s 44≠[]:=by
  obtain ⟨x,xs,e⟩:=gA 44 (tx s)
  rw [hL,e];simp
 have hc:((0:Int)≤44∧(44:Int)<256)=True:=eq_true (by decide)
 have pre:(s.size≤2000000)=True:=eq_true hs
 have iF:∀ i,az i=(lo,hi)→∀ r,(cS lo hi (ak s 44) 0 []).bind (fun y=>match y with
   | .ret w0_4 w0_5=>(some (w0_4,w0_5))
   | .x0 w0_8=>(if w0_8.length<4611686018427387904 then if (dr w0_8).length≤9223372036854775807 then some (id (hJ (dr w0_8)),true) else none else none))=some r→fY s i=some r:=fun i hi r hr=>by
  unfold fY
  rw [if_pos (by omega),if_pos (by decide),xL, ← hL,if_pos (by omega),hi]
  exact hr
 have sF:gq s lo hi=(dR lo hi (ak s 44) 0 (List.replicate (inc hi).toNat false)).bind fun y=>match y with
   | .ret w0_6 w0_7=>(some (w0_6,w0_7))
   | .x0 w0_8=>((eM hi w0_8 9223372036854775808 ([]) lo).bind fun y=>match y with
    | .x4 w1_16=>(some (w1_16,true))):=by
  unfold gq
  simp only [hc,pre,if_true]
  rw [if_pos (by omega),if_pos (by omega)]
 rcases vq lo hi h0 hlh hhi (ak s 44) 0 _ [] hpz hM (by simp;omega) with ⟨h1,h2⟩ | ⟨has,l,h1,h2,h3,h4,h5⟩
 ·rw [h1] at sF
  have sF':gq s lo hi=some ([],false):=sF
  have e:ag s lo hi=([],false):=by unfold ag;rw [sF'];rfl
  rw [e]
  exact ⟨sF',.inl ⟨rfl,rfl⟩,fun i hi=>iF i hi _ (by rw [h2];rfl)⟩
 ·obtain ⟨w,w1,w2,w3⟩:=FR hi has h3.1 hhi 60 9223372036854775808 lo [] (by omega) (by omega) h0 (by omega) (by simp) (by simp) (fun y hy=>by cases hy)
  have hw:∀ y,y∈w↔y∈l:=fun y=>by
   rw [w3]
   constructor
   ·rintro (h | ⟨a1,a2,a3⟩)
    ·cases h
    ·have:=(h3.2.2 y.toNat (by omega)).1 a3
     rwa [show ((y.toNat:Nat):Int)=y by omega] at this
   ·intro h
    have b:=h3.2.1 y h
    refine .inr ⟨b.1,b.2,(h3.2.2 y.toNat (by omega)).2 ?_⟩
    rwa [show ((y.toNat:Nat):Int)=y by omega]
  obtain ⟨c1,c2⟩:=CR l
  have e3:hJ (dr l)=w:=uR c1 w2 fun y=>(c2 y).trans (hw y).symm
  rw [h1,Option.bind_some] at sF
  simp only [w1,Option.bind_some] at sF
  have e:ag s lo hi=(w,true):=by unfold ag;rw [sF];rfl
  rw [e]
  have wm:∀ x∈w,lo≤x∧x≤hi:=fun x hx=>h3.2.1 x ((hw x).1 hx)
  have wl:=sg lo hi w lo w2 wm (by omega)
  refine ⟨sF,.inr ⟨rfl,w2,fun z => ?_,wm,by show w.length≤60;omega⟩,fun i hi=>iF i hi _ ?_⟩
  ·have hln:=h5 (.inl hne)
   cases q:l with
   | nil=>exact hln q
   | cons x t=>have:=(hw x).2 (by rw [q];simp);rw [show w=[] from z] at this;cases this
  ·rw [h2,Option.bind_some]
   simp only
   have sl:(dr l).length=l.length:=List.length_mergeSort l
   rw [sl,if_pos (by simp at h4;omega),if_pos (by simp at h4;omega),e3]
   rfl
theorem Aj (s:ByteArray) (i:Int) (hs:s.size≤2000000):fY s i=some (aL s i):=(wa s _ _ hs (Gg i)).2.2 i rfl
theorem dJ (x0:ByteArray) (x1:Int) (x2:Int) (h:x0.size≤2000000) (hb:0≤x1∧x1≤x2∧x2≤59):Does E 59 [.one (tS x0),.one (tI x1),.one (tI x2)] [(false,[.s .own () 1 (((ag x0 x1 x2).1).map etI)]),(false,[tB ((ag x0 x1 x2).2)])]:=by
 exact CE x0 x1 x2 _ (wa x0 x1 x2 h hb).1
theorem xY (x0:ByteArray) (x1:Int) (h:x0.size≤2000000):Does E 80 [.one (tS x0),.one (tI x1)] [(false,[.s .own () 1 (((aL x0 x1).1).map etI)]),(false,[tB ((aL x0 x1).2)])]:=by
 exact yq x0 x1 _ (Aj x0 x1 h)
theorem bZ (x0:ByteArray) (x1:Int) (h:x0.size≤2000000) {bb:Bool} (hbb:(aL x0 x1).2=bb):Does E 80 [.one (tS x0),.one (tI x1)] [(false,[.s .own () 1 (((aL x0 x1).1).map etI)]),(false,[tB bb])]:=by rw [← hbb];exact xY x0 x1 h
end Go.Proofs.YtdcbjglpdbcjpaaGreatDoor.Am
