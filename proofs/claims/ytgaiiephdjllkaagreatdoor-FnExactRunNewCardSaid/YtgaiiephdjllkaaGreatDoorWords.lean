/- Numbers in words. -/
import Derived.Test.YtgaiiephdjllkaaGreatDoorEnv
import Derived.Test.YtgaiiephdjllkaaGreatDoorShelf
namespace Go.Proofs.YtgaiiephdjllkaaGreatDoor.Am
open Go Go.Proofs Classical
set_option maxRecDepth 100000
set_option linter.unusedVariables false
set_option linter.unusedSimpArgs false
structure GCron where
 f0:List Int
 f1:List Int
 f2:List Int
 f3:List Int
 f4:List Int
def GCron.t (k:Kd) (x:GCron):List (T Unit):=[.s k () 1 (x.f0.map etI),.s k () 1 (x.f1.map etI),.s k () 1 (x.f2.map etI),.s k () 1 (x.f3.map etI),.s k () 1 (x.f4.map etI)]
instance:ak GCron:=⟨fun x=>ak.sm x.f0∧ak.sm x.f1∧ak.sm x.f2∧ak.sm x.f3∧ak.sm x.f4⟩
instance:Wf GCron:=⟨fun x=>Wf.wf x.f0∧Wf.wf x.f1∧Wf.wf x.f2∧Wf.wf x.f3∧Wf.wf x.f4⟩
structure GTask where
 f0:ByteArray
 f1:ByteArray
 f2:Int
 f3:Bool
 f4:List ByteArray
def GTask.t (k:Kd) (x:GTask):List (T Unit):=[tS x.f0,tS x.f1,tI x.f2,tB x.f3,.s k () 1 (x.f4.map etS)]
instance:ak GTask:=⟨fun x=>ak.sm x.f0∧ak.sm x.f1∧ak.sm x.f4⟩
instance:Wf GTask:=⟨fun x=>Wf.wf x.f0∧Wf.wf x.f1∧Wf.wf x.f4⟩
structure GDag where
 f0:ByteArray
 f1:ByteArray
 f2:Int
 f3:Int
 f4:Bool
 f5:List GTask
def GDag.t (k q:Kd) (x:GDag):List (T Unit):=[tS x.f0,tS x.f1,tI x.f2,tI x.f3,tB x.f4,.s k () 5 (x.f5.map (GTask.t q))]
instance:ak GDag:=⟨fun x=>ak.sm x.f0∧ak.sm x.f1∧ak.sm x.f5⟩
instance:Wf GDag:=⟨fun x=>Wf.wf x.f0∧Wf.wf x.f1∧Wf.wf x.f5⟩
structure LDag where
 f0:ByteArray
 f1:ByteArray
 f2:Int
 f3:Int
 f4:Bool
 f5:List GTask
def LDag.t (k q:Kd) (x:LDag):List (T Unit):=[tS x.f0,tS x.f1,tI x.f2,tI x.f3,tB x.f4,.s k () 5 (x.f5.map (GTask.t q))]
instance:ak LDag:=⟨fun x=>ak.sm x.f0∧ak.sm x.f1∧ak.sm x.f5⟩
instance:Wf LDag:=⟨fun x=>Wf.wf x.f0∧Wf.wf x.f1∧Wf.wf x.f5⟩
structure GSpan where
 f0:Int
 f1:Int
def GSpan.t (x:GSpan):List (T Unit):=[tI x.f0,tI x.f1]
instance:ak GSpan:=⟨fun x=>True⟩
instance:Wf GSpan:=⟨fun x=>True⟩
structure GState where
 f0:Int
 f1:Int
 f2:Int
 f3:Int
def GState.t (x:GState):List (T Unit):=[tI x.f0,tI x.f1,tI x.f2,tI x.f3]
instance:ak GState:=⟨fun x=>True⟩
instance:Wf GState:=⟨fun x=>True⟩
structure GRun where
 f0:ByteArray
 f1:GSpan
 f2:Int
 f3:List GState
def GRun.t (k:Kd) (x:GRun):List (T Unit):=[tS x.f0]++GSpan.t x.f1++[tI x.f2]++[.s k () 4 (x.f3.map GState.t)]
instance:ak GRun:=⟨fun x=>ak.sm x.f0∧ak.sm x.f1∧ak.sm x.f3⟩
instance:Wf GRun:=⟨fun x=>Wf.wf x.f0∧Wf.wf x.f1∧Wf.wf x.f3⟩
structure LRun where
 f0:ByteArray
 f1:GSpan
 f2:Int
 f3:List GState
def LRun.t (k:Kd) (x:LRun):List (T Unit):=[tS x.f0]++GSpan.t x.f1++[tI x.f2]++[.s k () 4 (x.f3.map GState.t)]
instance:ak LRun:=⟨fun x=>ak.sm x.f0∧ak.sm x.f1∧ak.sm x.f3⟩
instance:Wf LRun:=⟨fun x=>Wf.wf x.f0∧Wf.wf x.f1∧Wf.wf x.f3⟩
def df (s sep:ByteArray):List ByteArray:=Lib.splitB sep 0 (Lib.countB s sep) s
def aQ (xs:List ByteArray) (sep:ByteArray):ByteArray:=⟨(Lib.join (xs.map (·.data.toList)) sep.data.toList).toArray⟩
def bd (n:Int):ByteArray:=⟨(Lib.itoa n).toArray⟩
def aA (s sep:ByteArray):ByteArray×ByteArray×Bool:=(⟨(Lib.cut s.data.toList sep.data.toList).1.toArray⟩,⟨(Lib.cut s.data.toList sep.data.toList).2.1.toArray⟩,(Lib.cut s.data.toList sep.data.toList).2.2)
def bB (s p:ByteArray):ByteArray×Bool:=(⟨(Lib.trimPrefix s.data.toList p.data.toList).toArray⟩,Lib.hasPrefix s.data.toList p.data.toList)
noncomputable def gy (l:List Int):List Int:=l.mergeSort fun x y=>decide (x≤y)
noncomputable def gB (l:List Int):List Int:=Lib.compact l
theorem iV (x0 x1:ByteArray) (h1:x0.size<4294967281) (h2:1≤x1.size):Does E 101 [.one (tS x0),.one (tS x1)] [(false,[.s .own () 1 ((df x0 x1).map etS)])]:=by
 refine Does.orc ⟨0,fun k _ => ?_⟩
 have o:∀ C us,E.orc C 101 us=wk us:=fun _ _=>rfl
 refine (o _ _).trans ?_
 show (if _ then _ else _)=_
 rw [if_pos ⟨h1,h2⟩]
 rfl
theorem dB (x0 x1:ByteArray) (h1:x0.size<4294967281):Does E 115 [.one (tS x0),.one (tS x1)] [(false,[tS (aA x0 x1).1]),(false,[tS (aA x0 x1).2.1]),(false,[tB (aA x0 x1).2.2])]:=by
 refine Does.orc ⟨0,fun k _ => ?_⟩
 have o:∀ C us,E.orc C 115 us=Dd us:=fun _ _=>rfl
 refine (o _ _).trans ?_
 show (if _ then _ else _)=_
 rw [if_pos h1]
 rfl
theorem bq (x0 x1:ByteArray)  : Does E 113 [.one (tS x0),.one (tS x1)] [(false,[tS (bB x0 x1).1]),(false,[tB (bB x0 x1).2])]:=by
 refine Does.orc ⟨0,fun k _ => ?_⟩
 have o:∀ C us,E.orc C 113 us=nn us:=fun _ _=>rfl
 refine (o _ _).trans ?_
 rfl
theorem wA (x0:Int) (h : -9223372036854775808≤x0∧x0≤9223372036854775807):Does E 106 [.one (tI x0)] [(false,[tS (bd x0)])]:=by
 refine Does.orc ⟨0,fun k _ => ?_⟩
 have o:∀ C us,E.orc C 106 us=yZ us:=fun _ _=>rfl
 refine (o _ _).trans ?_
 show (if _ then _ else _)=_
 rw [if_pos h]
 rfl
theorem fC (x0:List ByteArray) (x1:ByteArray) (h:x0.length≤140737488355328∧(aQ x0 x1).size≤140737488355328):Does E 96 [.one (.s .far () 1 (x0.map etS)),.one (tS x1)] [(false,[tS (aQ x0 x1)])]:=by
 refine Does.orc ⟨0,fun k _ => ?_⟩
 have o:∀ C us,E.orc C 96 us=y3 us:=fun _ _=>rfl
 refine (o _ _).trans ?_
 show (oz _).bind _=_
 rw [wq,Option.bind_some,if_pos ⟨h.1,h.2⟩]
 rfl
theorem tK (x0:List Int) (h:x0.length<4611686018427387904):Does E 98 [.one (.s .own () 1 (x0.map etI))] [(false,[.s .own () 1 ((gy x0).map etI)])]:=by
 refine Does.orc ⟨0,fun k _ => ?_⟩
 have o:∀ C us,E.orc C 98 us=y7 us:=fun _ _=>rfl
 refine (o _ _).trans ?_
 show (jm _).bind _=_
 rw [ny,Option.bind_some,if_pos h]
 rfl
theorem qv (x0:List Int) (h:x0.length≤9223372036854775807):Does E 105 [.one (.s .own () 1 (x0.map etI))] [(false,[.any]),(false,[.s .own () 1 ((gB x0).map etI)])]:=by
 refine Does.orc ⟨0,fun k _ => ?_⟩
 have o:∀ C us,E.orc C 105 us=qA us:=fun _ _=>rfl
 refine (o _ _).trans ?_
 show (jm _).bind _=_
 rw [ny,Option.bind_some,if_pos h]
 rfl
theorem tJ (x0:List Int)  : Does E 104 [.one (.s .own () 1 (x0.map etI))] [(false,[.any]),(false,[.s .own () 1 ((id x0).map etI)])]:=by
 refine Does.orc ⟨0,fun k _ => ?_⟩
 have o:∀ C us,E.orc C 104 us=yW us:=fun _ _=>rfl
 refine (o _ _).trans ?_
 show (jm _).bind _=_
 rw [ny,Option.bind_some]
 rfl
end Go.Proofs.YtgaiiephdjllkaaGreatDoor.Am
namespace Go.Proofs.YtgaiiephdjllkaaGreatDoor.Am
open Go Go.Proofs Classical
set_option maxRecDepth 100000
set_option linter.unusedVariables false
set_option linter.unusedSimpArgs false
def aG (x a b:Int):Bool:=decide (x≥a)&&decide (x≤b)
theorem wN {α:Type} {l:List α} {k:Int} (h:0≤k∧k<(l.length:Int)):∃ x,aN l k=some x∧x∈l:=by
 unfold aN
 rw [if_pos h.1,List.getElem?_eq_getElem (by omega)]
 exact ⟨_,rfl,List.getElem_mem _⟩
noncomputable def tj (x0 x1 x2:Int):Option (Bool) :=
  cond (decide (x0≥x1))
   (some (decide (x0≤x2)))
   (some (false))
theorem FC (x0 x1 x2:Int):Ans (tj x0 x1 x2) (fun r=>Does E 46 [.one (tI x0),.one (tI x1),.one (tI x2)] [(false,[tB r])]):=by
 unfold tj
 apply JJ<;>intro h0
 ·exact JG (DP Tryz.f46 [.b true] (AC h0<|AN))
 ·exact JG (DP Tryz.f46 [.b false] (AC h0<|AN))
theorem bu (x0:Int) (x1:Int) (x2:Int):Does E 46 [.one (tI x0),.one (tI x1),.one (tI x2)] [(false,[tB (aG x0 x1 x2)])]:=by
 exact FC x0 x1 x2 _ (by unfold tj aG;cases decide (x0≥x1)<;>rfl)
noncomputable def pm (x0 x1 x2:Int):Option (Bool) :=
  cond (decide (x0≥x1))
   (some (decide (x0≤x2)))
   (some (false))
theorem B2 (x0 x1 x2:Int):Ans (pm x0 x1 x2) (fun r=>Does E 52 [.one (tI x0),.one (tI x1),.one (tI x2)] [(false,[tB r])]):=by
 unfold pm
 apply JJ<;>intro h0
 ·exact JG (DP Tryz.f52 [.b true] (AC h0<|AN))
 ·exact JG (DP Tryz.f52 [.b false] (AC h0<|AN))
theorem cW (x0:Int) (x1:Int) (x2:Int):Does E 52 [.one (tI x0),.one (tI x1),.one (tI x2)] [(false,[tB (aG x0 x1 x2)])]:=by
 exact B2 x0 x1 x2 _ (by unfold pm aG;cases decide (x0≥x1)<;>rfl)
noncomputable def iG (x0:Int):Option (Int) :=
  cond (decide (x0<(10:Int)))
   (some (IntKind.wrap .u8 (IntKind.wrap .i64 ((48:Int)+x0))))
   (some (IntKind.wrap .u8 (IntKind.wrap .i64 ((IntKind.wrap .i64 ((97:Int)+x0))-(10:Int)))))
theorem yD (x0:Int):Ans (iG x0) (fun r=>Does E 100 [.one (tI x0)] [(false,[tY r])]):=by
 unfold iG
 apply JJ<;>intro h0
 ·exact JG (DP Tryz.f100 [.b true] (AC h0<|AN))
 ·exact JG (DP Tryz.f100 [.b false] (AC h0<|AN))
theorem GR {x:Int} (h0:0≤x) (h1:x<256):IntKind.wrap .u8 x=x:=by
 simp only [IntKind.wrap,IntKind.bits,IntKind.signed]
 simp
 omega
noncomputable def cw (x:Int):Int:=(iG x).getD 0
theorem zM (d:Nat) (h:d<10):cw (d:Int)=48+(d:Int):=by
 unfold cw iG
 rw [decide_eq_true (by omega),cond_true,Option.getD_some,de _ (by omega) (by omega),GR (by omega) (by omega)]
theorem ro (x0:Int):Does E 100 [.one (tI x0)] [(false,[tY (cw x0)])]:=by
 exact yD x0 _ (by unfold cw iG;cases decide (x0<10)<;>rfl)
noncomputable def pk (x0:Int):Option (ByteArray) :=
  if -9223372036854775808≤x0∧x0≤9223372036854775807 then some (bd x0) else none
theorem BX (x0:Int):Ans (pk x0) (fun r=>Does E 95 [.one (tI x0)] [(false,[tS r])]):=by
 unfold pk
 refine JL (fun h0 => ?_)
 exact JG (DP Tryz.f95 [.ret [(false,[tS (bd x0)])]] (AD (wA x0 h0)<|AN))
theorem o8 (x0:Int) (h : -9223372036854775808≤x0∧x0≤9223372036854775807):Does E 95 [.one (tI x0)] [(false,[tS (bd x0)])]:=by
 exact BX x0 _ (by unfold pk;rw [if_pos h])
inductive tg where
 | x0 (v4:ByteArray)
def gQ (v0:Int) (v3:Bool) (v4:ByteArray):US:=stL 30 [(0,.one (tI v0)),(3,.one (tB v3)),(4,.one (tS v4))]
def jO (v3:Bool) (zv4:ByteArray):US:=stL 30 [(3,.one (tB v3)),(4,.one (tS zv4))]
abbrev ot:US→Exit→US→Prop:=Round E 89 (av Tryz.f89 0)
def A0 (v0:Int) (v3:Bool) (v4:ByteArray):tg→Prop
 | .x0 zv4=>Loops E 89 (av Tryz.f89 0) (gQ v0 v3 v4) (.exit 0) (jO v3 zv4)
noncomputable def eL  : Nat→Int→Bool→ByteArray→Option tg
 | 0,_,_,_=>none
 | n+1,v0,v3,v4=>cond (v0 != (0:Int))
  (cond (decide ((Int.tmod v0 (10:Int))<(0:Int)))
   (if (strOfNums ([cw (IntKind.wrap .i64 (0-(Int.tmod v0 (10:Int))))])).size+v4.size≤maxStr then eL n (IntKind.wrap .i64 (Int.tdiv v0 (10:Int))) v3 ((strOfNums ([cw (IntKind.wrap .i64 (0-(Int.tmod v0 (10:Int))))]))++v4) else none)
   (if (strOfNums ([cw (Int.tmod v0 (10:Int))])).size+v4.size≤maxStr then eL n (IntKind.wrap .i64 (Int.tdiv v0 (10:Int))) v3 ((strOfNums ([cw (Int.tmod v0 (10:Int))]))++v4) else none))
  (some (.x0 v4))
theorem tf  (n:Nat):∀ (v0:Int) (v3:Bool) (v4:ByteArray),Ans (eL n v0 v3 v4) (A0 v0 v3 v4):=by
 induction n with
 | zero=>intros;exact Ans.none
 | succ n ih =>
  intro v0 v3 v4
  unfold eL
  apply JJ<;>intro h0
  ·apply JJ<;>intro h1
   ·refine JL (fun h2 => ?_)
    have r:ot (gQ v0 v3 v4) .normal (gQ (IntKind.wrap .i64 (Int.tdiv v0 (10:Int))) v3 ((strOfNums ([cw (IntKind.wrap .i64 (0-(Int.tmod v0 (10:Int))))]))++v4)):=RP [.b true,.no,.b true,.ret [(false,[tY (cw (IntKind.wrap .i64 (0-(Int.tmod v0 (10:Int)))))])],.val (.string (strOfNums ([cw (IntKind.wrap .i64 (0-(Int.tmod v0 (10:Int))))]))),.val (.string ((strOfNums ([cw (IntKind.wrap .i64 (0-(Int.tmod v0 (10:Int))))]))++v4))] (AC h0<|AC h1<|AD (ro (IntKind.wrap .i64 (0-(Int.tmod v0 (10:Int)))))<|AC (p:=(cU (((([cw (IntKind.wrap .i64 (0-(Int.tmod v0 (10:Int))))]).map etY).drop 0).take (([cw (IntKind.wrap .i64 (0-(Int.tmod v0 (10:Int))))]).map etY).length)).map strOfNums=some (strOfNums ([cw (IntKind.wrap .i64 (0-(Int.tmod v0 (10:Int))))]))) (by simp only [List.take_length,List.drop_zero];exact Bm)<|AC (fh (tab:=E.tab) (t:=9) h2)<|AN);exact (ih (IntKind.wrap .i64 (Int.tdiv v0 (10:Int))) v3 ((strOfNums ([cw (IntKind.wrap .i64 (0-(Int.tmod v0 (10:Int))))]))++v4)).mono fun y hy=>by cases y<;>exact JH r hy
   ·refine JL (fun h2 => ?_)
    have r:ot (gQ v0 v3 v4) .normal (gQ (IntKind.wrap .i64 (Int.tdiv v0 (10:Int))) v3 ((strOfNums ([cw (Int.tmod v0 (10:Int))]))++v4)):=RP [.b true,.no,.b false,.ret [(false,[tY (cw (Int.tmod v0 (10:Int)))])],.val (.string (strOfNums ([cw (Int.tmod v0 (10:Int))]))),.val (.string ((strOfNums ([cw (Int.tmod v0 (10:Int))]))++v4))] (AC h0<|AC h1<|AD (ro (Int.tmod v0 (10:Int)))<|AC (p:=(cU (((([cw (Int.tmod v0 (10:Int))]).map etY).drop 0).take (([cw (Int.tmod v0 (10:Int))]).map etY).length)).map strOfNums=some (strOfNums ([cw (Int.tmod v0 (10:Int))]))) (by simp only [List.take_length,List.drop_zero];exact Bm)<|AC (fh (tab:=E.tab) (t:=9) h2)<|AN);exact (ih (IntKind.wrap .i64 (Int.tdiv v0 (10:Int))) v3 ((strOfNums ([cw (Int.tmod v0 (10:Int))]))++v4)).mono fun y hy=>by cases y<;>exact JH r hy
  ·exact JG (JI (show ot (gQ v0 v3 v4) (.exit 0) (jO v3 v4) from RP [.b false] (AC h0<|AN)) (by intro h;cases h))
noncomputable def mD (x0:Int):Option (ByteArray) :=
  cond (x0==(0:Int))
   (some ((⟨#[48]⟩:ByteArray)))
   (cond (decide (x0<(0:Int)))
    ((eL 9223372036854775808 x0 true ByteArray.empty).bind fun y=>match y with
     | .x0 w0_4=>(if (⟨#[45]⟩:ByteArray).size+w0_4.size≤maxStr then some ((⟨#[45]⟩:ByteArray)++w0_4) else none))
    ((eL 9223372036854775808 x0 false ByteArray.empty).bind fun y=>match y with
     | .x0 w0_4=>(some (w0_4))))
theorem Cl (x0:Int):Ans (mD x0) (fun r=>Does E 89 [.one (tI x0)] [(false,[tS r])]):=by
 unfold mD
 apply JJ<;>intro h0
 ·exact JG (DP Tryz.f89 [.b true] (AC h0<|AN))
 ·apply JJ<;>intro h1
  ·refine JK (fun y hy => ?_)
   replace hy:=tf 9223372036854775808 x0 true ByteArray.empty y hy
   cases y with
   | x0 w0_4 =>
    have h2:=hy
    refine JL (fun h3 => ?_)
    exact JG (DP Tryz.f89 [.b false,.b true,.lp (.exit 0) (jO true w0_4),.val (.string ((⟨#[45]⟩:ByteArray)++w0_4))] (AC h0<|AC h1<|AL h2<|AC (fh (tab:=E.tab) (t:=9) h3)<|AN))
  ·refine JK (fun y hy => ?_)
   replace hy:=tf 9223372036854775808 x0 false ByteArray.empty y hy
   cases y with
   | x0 w0_4 =>
    have h2:=hy
    exact JG (DP Tryz.f89 [.b false,.b false,.lp (.exit 0) (jO false w0_4)] (AC h0<|AC h1<|AL h2<|AN))
theorem vU (d:Nat) (h:d<10):strOfNums [cw (d:Int)]=ofTx [UInt8.ofNat (48+d)]:=by
 rw [zM d h]
 unfold strOfNums ofTx
 have:(48+(d:Int)).toNat=48+d:=by omega
 simp [this]
def se (u:Nat):List UInt8:=if u=0 then [] else Lib.decDigits u
theorem EG (u:Nat) (h:0<u):se u=se (u/10)++[UInt8.ofNat (48+u % 10)]:=by
 unfold se
 rw [if_neg (by omega),BF u h]
theorem F2 (u:Nat) (h:u<10 ^ 19):(se u).length≤19:=by
 unfold se
 split
 ·simp
 ·exact qD 18 u h
theorem xB (b:Bool):∀ (n:Nat) (v:Int) (s:List UInt8), -9223372036854775808≤v→v≤9223372036854775807→v.natAbs<10 ^ n→s.length+n≤100→∀ m,n<m→eL m v b (ofTx s)=some (.x0 (ofTx (se v.natAbs++s)))
 | 0,v,s,_,_,h,_,m,hm=>by
  obtain ⟨m,rfl⟩:∃ k,m=k+1:=⟨m-1,by omega⟩
  have:v=0:=by simpa using h
  subst this
  rfl
 | n+1,v,s,h1,h2,h,hs,m,hm=>by
  obtain ⟨m,rfl⟩:∃ k,m=k+1:=⟨m-1,by omega⟩
  unfold eL
  by_cases z:v=0
  ·subst z;rfl
  ·have hz:(v != 0)=true:=by simpa using z
   rw [hz,cond_true]
   have hpos:0<v.natAbs:=by omega
   have hd:v.natAbs % 10<10:=Nat.mod_lt _ (by omega)
   have hq:(Int.tdiv v 10).natAbs=v.natAbs/10:=by rw [Int.natAbs_tdiv];rfl
   have hw:IntKind.wrap .i64 (Int.tdiv v 10)=Int.tdiv v 10:=de _ (by omega) (by omega)
   have hm0:(Int.tmod v 10).natAbs=v.natAbs % 10:=by rw [Int.natAbs_tmod];rfl
   have ih:=xB b n (Int.tdiv v 10) ([UInt8.ofNat (48+v.natAbs % 10)]++s) (by omega) (by omega) (by rw [hq];rw [Nat.pow_succ] at h;omega) (by simp;omega) m (by omega)
   rw [hq, ← List.append_assoc, ← EG _ hpos] at ih
   have sz:∀ l:List UInt8,(ofTx l).size=l.length:=fun l=>cI _
   by_cases c:Int.tmod v 10<0
   ·have e:IntKind.wrap .i64 (0-Int.tmod v 10)=((v.natAbs % 10:Nat):Int):=by rw [de _ (by omega) (by omega)];omega
    rw [decide_eq_true c,cond_true,e,vU _ hd,if_pos (by rw [sz,sz];simp [maxStr];omega),hw,mg]
    exact ih
   ·have e:Int.tmod v 10=((v.natAbs % 10:Nat):Int):=by omega
    rw [decide_eq_false c,cond_false,e,vU _ hd,if_pos (by rw [sz,sz];simp [maxStr];omega),hw,mg]
    exact ih
theorem EF (x:Int) (h : -9223372036854775808≤x∧x≤9223372036854775807):mD x=some (bd x):=by
 unfold mD bd Lib.itoa
 by_cases z:x=0
 ·subst z
  show some _=some _
  rw [if_neg (by omega),Lib.decDigits,dif_pos (by simp)];rfl
 ·have hz:(x==0)=false:=by simpa using z
  have hb:x.natAbs<10 ^ 19:=by have:(10:Nat) ^ 19=10000000000000000000:=rfl;omega
  have hl:=fun b=>xB b 19 x [] h.1 h.2 hb (by simp) 9223372036854775808 (by omega)
  have e0:ofTx []=ByteArray.empty:=rfl
  rw [e0] at hl
  have dl:=F2 _ hb
  rw [hz,cond_false,hl,hl]
  simp only [List.append_nil,Option.bind_some]
  have sz:∀ l:List UInt8,(ofTx l).size=l.length:=fun l=>cI _
  have hd:se x.natAbs=Lib.decDigits x.natAbs:=by unfold se;rw [if_neg (by omega)]
  by_cases c:x<0
  ·have e1:(⟨#[45]⟩:ByteArray)=ofTx [45]:=rfl
   rw [decide_eq_true c,cond_true,if_pos c,e1,if_pos (by rw [sz,sz];simp [maxStr];omega),mg,hd]
   rfl
  ·have e2:x.natAbs=x.toNat:=by omega
   rw [decide_eq_false c,cond_false,if_neg c,hd,e2]
   rfl
theorem mv (x0:Int) (h : -9223372036854775808≤x0∧x0≤9223372036854775807):Does E 89 [.one (tI x0)] [(false,[tS (bd x0)])]:=by
 exact Cl x0 _ (EF x0 h)
inductive th where
 | ret (v2:List ByteArray) (v3:Bool)
 | x0 (v4:List ByteArray)
def bL (v0:ByteArray) (v4:List ByteArray) (v5 v6:Int):US:=stL 62 [(0,.one (tS v0)),(4,.one (.s .own () 1 (v4.map etS))),(5,.one (tI v5)),(6,.one (tI v6))]
def i8 (zv2:List ByteArray) (zv3:Bool):US:=stL 62 [(2,.one (.s .own () 1 (zv2.map etS))),(3,.one (tB zv3))]
def jP (zv4:List ByteArray):US:=stL 62 [(4,.one (.s .own () 1 (zv4.map etS)))]
abbrev eM:US→Exit→US→Prop:=Round E 66 (av Tryz.f66 0)
def A2 (v0:ByteArray) (v4:List ByteArray) (v5 v6:Int):th→Prop
 | .ret zv2 zv3=>Loops E 66 (av Tryz.f66 0) (bL v0 v4 v5 v6) .ret (i8 zv2 zv3)
 | .x0 zv4=>Loops E 66 (av Tryz.f66 0) (bL v0 v4 v5 v6) (.exit 0) (jP zv4)
noncomputable def cB (v0:ByteArray):Nat→(List ByteArray)→Int→Int→Option th
 | 0,_,_,_=>none
 | n+1,v4,v5,v6=>cond (decide (v6≤(v0.size:Int)))
  (cond (decide (v6<(v0.size:Int)))
   (if 0≤v6∧v6<(v0.size:Int) then cond (decide ((fk v0 v6)<(32:Int)))
    (some (.ret ([]) false))
    (cond (decide ((fk v0 v6)>(126:Int)))
     (some (.ret ([]) false))
     (cond ((fk v0 v6) != (32:Int))
      (cB v0 n v4 v5 (inc v6))
      (cond (decide (v5<v6))
       (if 0≤v5∧v5≤v6∧v6≤(v0.size:Int) then if (v4.length+([v0.extract v5.toNat v6.toNat]).length)*16≤140737488355328∧v4.length+([v0.extract v5.toNat v6.toNat]).length≤4611686018427387904 then cB v0 n (v4++([v0.extract v5.toNat v6.toNat])) (inc v6) (inc v6) else none else none)
       (cB v0 n v4 (inc v6) (inc v6))))) else none)
   (cond (decide (v5<v6))
    (if 0≤v5∧v5≤v6∧v6≤(v0.size:Int) then if (v4.length+([v0.extract v5.toNat v6.toNat]).length)*16≤140737488355328∧v4.length+([v0.extract v5.toNat v6.toNat]).length≤4611686018427387904 then cB v0 n (v4++([v0.extract v5.toNat v6.toNat])) (inc v6) (inc v6) else none else none)
    (cB v0 n v4 (inc v6) (inc v6))))
  (some (.x0 v4))
theorem A1 (v0:ByteArray) (n:Nat):∀ (v4:List ByteArray) (v5 v6:Int),Ans (cB v0 n v4 v5 v6) (A2 v0 v4 v5 v6):=by
 induction n with
 | zero=>intros;exact Ans.none
 | succ n ih =>
  intro v4 v5 v6
  unfold cB
  apply JJ<;>intro h0
  ·apply JJ<;>intro h1
   ·refine JL (fun h2 => ?_)
    apply JJ<;>intro h3
    ·exact JG (JI (show eM (bL v0 v4 v5 v6) .ret (i8 ([]) false) from RP [.b true,.b true,.b true] (AC h0<|AC h1<|AC h2<|AC h3<|AN)) (by intro h;cases h))
    ·apply JJ<;>intro h4
     ·exact JG (JI (show eM (bL v0 v4 v5 v6) .ret (i8 ([]) false) from RP [.b true,.b true,.b false,.b true] (AC h0<|AC h1<|AC h2<|AC h3<|AC h2<|AC h4<|AN)) (by intro h;cases h))
     ·apply JJ<;>intro h5
      ·have r:eM (bL v0 v4 v5 v6) .normal (bL v0 v4 v5 (inc v6)):=RP [.b true,.b true,.b false,.b false,.b true,.b true] (AC h0<|AC h1<|AC h2<|AC h3<|AC h2<|AC h4<|AC h1<|AC h2<|AC h5<|AN);exact (ih v4 v5 (inc v6)).mono fun y hy=>by cases y<;>exact JH r hy
      ·apply JJ<;>intro h6
       ·refine JL (fun h7 => ?_)
        refine JL (fun h8 => ?_)
        have r:eM (bL v0 v4 v5 v6) .normal (bL v0 (v4++([v0.extract v5.toNat v6.toNat])) (inc v6) (inc v6)):=RP [.b true,.b true,.b false,.b false,.b true,.b false,.b true,.rows ((v4++([v0.extract v5.toNat v6.toNat])).map etS)] (AC h0<|AC h1<|AC h2<|AC h3<|AC h2<|AC h4<|AC h1<|AC h2<|AC h5<|AC h6<|AC h7<|AAp etS (fun _=>rfl) h8<|AN);exact (ih (v4++([v0.extract v5.toNat v6.toNat])) (inc v6) (inc v6)).mono fun y hy=>by cases y<;>exact JH r hy
       ·have r:eM (bL v0 v4 v5 v6) .normal (bL v0 v4 (inc v6) (inc v6)):=RP [.b true,.b true,.b false,.b false,.b true,.b false,.b false] (AC h0<|AC h1<|AC h2<|AC h3<|AC h2<|AC h4<|AC h1<|AC h2<|AC h5<|AC h6<|AN);exact (ih v4 (inc v6) (inc v6)).mono fun y hy=>by cases y<;>exact JH r hy
   ·apply JJ<;>intro h2
    ·refine JL (fun h3 => ?_)
     refine JL (fun h4 => ?_)
     have r:eM (bL v0 v4 v5 v6) .normal (bL v0 (v4++([v0.extract v5.toNat v6.toNat])) (inc v6) (inc v6)):=RP [.b true,.b false,.b false,.b true,.rows ((v4++([v0.extract v5.toNat v6.toNat])).map etS)] (AC h0<|AC h1<|AC h1<|AC h2<|AC h3<|AAp etS (fun _=>rfl) h4<|AN);exact (ih (v4++([v0.extract v5.toNat v6.toNat])) (inc v6) (inc v6)).mono fun y hy=>by cases y<;>exact JH r hy
    ·have r:eM (bL v0 v4 v5 v6) .normal (bL v0 v4 (inc v6) (inc v6)):=RP [.b true,.b false,.b false,.b false] (AC h0<|AC h1<|AC h1<|AC h2<|AN);exact (ih v4 (inc v6) (inc v6)).mono fun y hy=>by cases y<;>exact JH r hy
  ·exact JG (JI (show eM (bL v0 v4 v5 v6) (.exit 0) (jP v4) from RP [.b false] (AC h0<|AN)) (by intro h;cases h))
noncomputable def mE (x0:ByteArray):Option ((List ByteArray)×Bool) :=
  cond (decide ((x0.size:Int)>(600:Int)))
   (some (([]:List ByteArray),false))
   ((cB x0 9223372036854775808 ([]) (0:Int) (0:Int)).bind fun y=>match y with
    | .ret w0_2 w0_3=>(some (w0_2,w0_3))
    | .x0 w0_4=>(cond (decide ((w0_4.length:Int)>(10:Int)))
     (some (([]:List ByteArray),false))
     (some (w0_4,true))))
theorem Co (x0:ByteArray):Ans (mE x0) (fun r=>Does E 66 [.one (tS x0)] [(false,[.s .own () 1 (r.1.map etS)]),(false,[tB r.2])]):=by
 unfold mE
 apply JJ<;>intro h0
 ·exact JG (DP Tryz.f66 [.b true] (AC h0<|AN))
 ·refine JK (fun y hy => ?_)
  replace hy:=A1 x0 9223372036854775808 ([]) (0:Int) (0:Int) y hy
  cases y with
  | ret w0_2 w0_3 =>
   have h1:=hy
   exact JG (DP Tryz.f66 [.b false,.lp .ret (i8 w0_2 w0_3)] (AC h0<|AL h1<|AN))
  | x0 w0_4 =>
   have h1:=hy
   apply JJ<;>intro h2
   ·exact JG (DP Tryz.f66 [.b false,.lp (.exit 0) (jP w0_4),.val (.int .i64 (w0_4.length:Int)),.b true] (AC h0<|AL h1<|ALn w0_4 etS<|AC h2<|AN))
   ·exact JG (DP Tryz.f66 [.b false,.lp (.exit 0) (jP w0_4),.val (.int .i64 (w0_4.length:Int)),.b false] (AC h0<|AL h1<|ALn w0_4 etS<|AC h2<|AN))
inductive sI where
 | x2 (v5:List ByteArray)
def gL (v5 v28:List ByteArray) (v29 v30:Int):US:=stL 45 [(5,.one (.s .own () 1 (v5.map etS))),(28,.one (.s .own () 1 (v28.map etS))),(29,.one (tI v29)),(30,.one (tI v30))]
def jE (zv5:List ByteArray):US:=stL 45 [(5,.one (.s .own () 1 (zv5.map etS)))]
abbrev nZ:US→Exit→US→Prop:=Round E 90 (av Tryz.f90 1)
def z6 (v5 v28:List ByteArray) (v29 v30:Int):sI→Prop
 | .x2 zv5=>Loops E 90 (av Tryz.f90 1) (gL v5 v28 v29 v30) (.exit 2) (jE zv5)
noncomputable def d8  : List ByteArray→Nat→(List ByteArray)→Option sI
 | [],i,v5=>some (.x2 v5)
 | hd::rest,i,v5=>cond (!(hd.toList==ByteArray.empty.toList))
  (if (v5.length+([hd]).length)*16≤140737488355328∧v5.length+([hd]).length≤4611686018427387904 then d8 rest (i+1) (v5++([hd])) else none)
  (d8 rest (i+1) v5)
theorem zY (v28:List ByteArray) (rest:List ByteArray):∀ (i:Nat) (v5:List ByteArray),(v28).drop i=rest→v28.length≤9223372036854775807→Ans (d8 rest i v5) (z6 v5 v28 (v28.length:Int) (i:Int)):=by
 induction rest with
 | nil =>
  intro i v5 hE hl
  have hb:=bG hE
  unfold d8
  exact JG (JI (show nZ (gL v5 v28 (v28.length:Int) (i:Int)) (.exit 2) (jE v5) from RP [.b false] (AC hb<|AN)) (by intro h;cases h))
 | cons hd rest ih =>
  intro i v5 hE hl
  have hb:=bm hE
  have hw:=bn hE hl
  have hE2:=aK hE
  have hg:=bo hE
  unfold d8
  apply JJ<;>intro h2
  ·refine JL (fun h3 => ?_)
   exact (ih (i+1) (v5++([hd])) hE2 hl).mono fun y hy=>by have r:nZ (gL v5 v28 (v28.length:Int) (i:Int)) .normal (gL (v5++([hd])) v28 (v28.length:Int) (inc (i:Int))):=RP [.b true,.row (etS hd),.b true,.rows ((v5++([hd])).map etS)] (AC hb<|AG etS hg<|AC h2<|AAp etS (fun _=>rfl) h3<|AN);rw [hw] at r;cases y<;>exact JH r hy
  ·exact (ih (i+1) v5 hE2 hl).mono fun y hy=>by have r:nZ (gL v5 v28 (v28.length:Int) (i:Int)) .normal (gL v5 v28 (v28.length:Int) (inc (i:Int))):=RP [.b true,.row (etS hd),.b false] (AC hb<|AG etS hg<|AC h2<|AN);rw [hw] at r;cases y<;>exact JH r hy
inductive sH where
 | ret (v2:List ByteArray) (v3:Bool)
 | x0 
def fO (v0:ByteArray) (v4:Int):US:=stL 45 [(0,.one (tS v0)),(4,.one (tI v4))]
def iW (zv2:List ByteArray) (zv3:Bool):US:=stL 45 [(2,.one (.s .own () 1 (zv2.map etS))),(3,.one (tB zv3))]
def jD (v0:ByteArray):US:=stL 45 [(0,.one (tS v0))]
abbrev lB:US→Exit→US→Prop:=Round E 90 (av Tryz.f90 0)
def zZ (v0:ByteArray) (v4:Int):sH→Prop
 | .ret zv2 zv3=>Loops E 90 (av Tryz.f90 0) (fO v0 v4) .ret (iW zv2 zv3)
 | .x0=>Loops E 90 (av Tryz.f90 0) (fO v0 v4) (.exit 0) (jD v0)
noncomputable def fP  : List Int→Nat→Option sH
 | [],i=>some (.x0)
 | hd::rest,i=>cond (decide (hd<(32:Int)))
  (some (.ret ([]) false))
  (cond (decide (hd>(126:Int)))
   (some (.ret ([]) false))
   (fP rest (i+1)))
theorem zX (v0:ByteArray) (rest:List Int):∀ (i:Nat) ,(bH v0).drop i=rest→v0.size≤9223372036854775807→Ans (fP rest i) (zZ v0 (i:Int)):=by
 induction rest with
 | nil =>
  intro i hE hl
  have hb:=nV hE
  unfold fP
  exact JG (JI (show lB (fO v0 (i:Int)) (.exit 0) (jD v0) from RP [.b false] (AC hb<|AN)) (by intro h;cases h))
 | cons hd rest ih =>
  intro i hE hl
  have hb:=mO hE
  have hw:=mP hE hl
  have hE2:=aK hE
  have hp:=pT hE
  obtain rfl:=pS hE
  unfold fP
  apply JJ<;>intro h2
  ·exact JG (JI (show lB (fO v0 (i:Int)) .ret (iW ([]) false) from RP [.b true,.b true] (AC hb<|AC hp<|AC h2<|AN)) (by intro h;cases h))
  ·apply JJ<;>intro h3
   ·exact JG (JI (show lB (fO v0 (i:Int)) .ret (iW ([]) false) from RP [.b true,.b false,.b true] (AC hb<|AC hp<|AC h2<|AC hp<|AC h3<|AN)) (by intro h;cases h))
   ·exact (ih (i+1) hE2 hl).mono fun y hy=>by have r:lB (fO v0 (i:Int)) .normal (fO v0 (inc (i:Int))):=RP [.b true,.b false,.b false] (AC hb<|AC hp<|AC h2<|AC hp<|AC h3<|AN);rw [hw] at r;cases y<;>exact JH r hy
noncomputable def mz (x0:ByteArray):Option ((List ByteArray)×Bool) :=
  cond (decide ((x0.size:Int)>(600:Int)))
   (some (([]:List ByteArray),false))
   (if x0.size≤9223372036854775807 then (fP (bH x0) 0).bind fun y=>match y with
    | .ret w0_2 w0_3=>(some (w0_2,w0_3))
    | .x0=>(if x0.size<4294967281 then if 1≤(⟨#[32]⟩:ByteArray).size then if (df x0 (⟨#[32]⟩:ByteArray)).length≤9223372036854775807 then (d8 (df x0 (⟨#[32]⟩:ByteArray)) 0 ([])).bind fun y=>match y with
     | .x2 w1_5=>(cond (decide ((w1_5.length:Int)>(10:Int)))
      (some (([]:List ByteArray),false))
      (some (w1_5,true))) else none else none else none) else none)
theorem B1 (x0:ByteArray):Ans (mz x0) (fun r=>Does E 90 [.one (tS x0)] [(false,[.s .own () 1 (r.1.map etS)]),(false,[tB r.2])]):=by
 unfold mz
 apply JJ<;>intro h0
 ·exact JG (DP Tryz.f90 [.b true] (AC h0<|AN))
 ·refine JL (fun hl2 => ?_)
  refine JK (fun y hy => ?_)
  replace hy:=zX x0 (bH x0) 0 rfl hl2 y hy
  cases y with
  | ret w0_2 w0_3 =>
   have h1:=hy
   exact JG (DP Tryz.f90 [.b false,.lp .ret (iW w0_2 w0_3)] (AC h0<|AL h1<|AN))
  | x0 =>
   have h1:=hy
   refine JL (fun h2 => ?_)
   refine JL (fun h3 => ?_)
   refine JL (fun hl3 => ?_)
   refine JK (fun y hy => ?_)
   replace hy:=zY (df x0 (⟨#[32]⟩:ByteArray)) (df x0 (⟨#[32]⟩:ByteArray)) 0 ([]) rfl hl3 y hy
   cases y with
   | x2 w1_5 =>
    have h4:=hy
    apply JJ<;>intro h5
    ·exact JG (DP Tryz.f90 [.b false,.lp (.exit 0) (jD x0),.ret [(false,[.s .own () 1 ((df x0 (⟨#[32]⟩:ByteArray)).map etS)])],.val (.int .i64 ((df x0 (⟨#[32]⟩:ByteArray)).length:Int)),.lp (.exit 2) (jE w1_5),.val (.int .i64 (w1_5.length:Int)),.b true] (AC h0<|AL h1<|AD (iV x0 (⟨#[32]⟩:ByteArray) h2 h3)<|ALn (df x0 (⟨#[32]⟩:ByteArray)) etS<|AL h4<|ALn w1_5 etS<|AC h5<|AN))
    ·exact JG (DP Tryz.f90 [.b false,.lp (.exit 0) (jD x0),.ret [(false,[.s .own () 1 ((df x0 (⟨#[32]⟩:ByteArray)).map etS)])],.val (.int .i64 ((df x0 (⟨#[32]⟩:ByteArray)).length:Int)),.lp (.exit 2) (jE w1_5),.val (.int .i64 (w1_5.length:Int)),.b false] (AC h0<|AL h1<|AD (iV x0 (⟨#[32]⟩:ByteArray) h2 h3)<|ALn (df x0 (⟨#[32]⟩:ByteArray)) etS<|AL h4<|ALn w1_5 etS<|AC h5<|AN))
def okB (b:UInt8):Bool:=decide (32≤b.toNat)&&decide (b.toNat≤126)
theorem Fk {b:UInt8} (h:b.toNat<32):okB b=false:=by unfold okB;rw [decide_eq_false (by omega)];rfl
theorem Fi {b:UInt8} (h:126<b.toNat):okB b=false:=by unfold okB;rw [decide_eq_false (by omega:¬ b.toNat≤126),Bool.and_false]
theorem Fj {b:UInt8} (h:¬ b.toNat<32) (h2:¬ 126<b.toNat):okB b=true:=by unfold okB;rw [decide_eq_true (by omega),decide_eq_true (by omega)];rfl
def aO (x:ByteArray):Bool := !(x.toList==ByteArray.empty.toList)
noncomputable def aC (s:ByteArray):List ByteArray×Bool :=
 if 600<s.size then ([],false) else if (tx s).all okB=true then (if 10<(((bC 32 (tx s)).map ofTx).filter aO).length then ([],false) else (((bC 32 (tx s)).map ofTx).filter aO,true)) else ([],false)
theorem zO (l:List UInt8):aO (ofTx l) = !l.isEmpty:=by
 unfold aO
 rw [nM]
 have:tx ByteArray.empty=[]:=rfl
 rw [this,qp]
 cases l<;>rfl
theorem wj (s:ByteArray) (c:UInt8):df s ⟨#[c]⟩=(bC c (tx s)).map ofTx:=Ct s c
theorem nF (s:ByteArray):bH s=(tx s).map fun b=>(b.toNat:Int):=rfl
theorem zo {s:ByteArray} {i:Nat} {b:UInt8} (h:(tx s)[i]?=some b):fk s (i:Int)=(b.toNat:Int):=by
 have hi:i<s.size:=by
  rw [cI]
  rcases Nat.lt_or_ge i (tx s).length with g | g
  ·exact g
  ·rw [List.getElem?_eq_none g] at h;cases h
 have:=pC s i hi
 rw [nF,List.getElem?_map,h] at this
 exact (Option.some.inj this).symm
theorem Fo:∀ (l:List UInt8) (i:Nat),fP (l.map fun b=>(b.toNat:Int)) i=some (if l.all okB=true then .x0 else .ret [] false)
 | [],i=>rfl
 | b::l,i=>by
  rw [List.map_cons]
  unfold fP
  rw [Fo l (i+1),List.all_cons]
  by_cases h:b.toNat<32
  ·rw [decide_eq_true (by omega),Fk h];rfl
  ·rw [decide_eq_false (by omega),cond_false]
   by_cases h':126<b.toNat
   ·rw [decide_eq_true (by omega),Fi h'];rfl
   ·rw [decide_eq_false (by omega),Fj h h'];rfl
theorem AH:∀ (l:List ByteArray) (i:Nat) (v:List ByteArray),v.length+l.length≤4000000→d8 l i v=some (.x2 (v++l.filter aO))
 | [],i,v,_=>by unfold d8;simp
 | x::l,i,v,h=>by
  simp only [List.length_cons] at h
  unfold d8
  have e:(!(x.toList==ByteArray.empty.toList))=aO x:=rfl
  rw [e]
  cases q:aO x with
  | true =>
   rw [cond_true,if_pos (by simp;omega),AH l (i+1) _ (by simp;omega),List.filter_cons,q];simp
  | false =>
   rw [cond_false,AH l (i+1) v (by omega),List.filter_cons,q];simp
theorem Fp (s:ByteArray):mz s=some (aC s):=by
 unfold mz aC
 by_cases h:600<s.size
 ·rw [decide_eq_true (by omega),if_pos h];rfl
 ·have hl:=uA 32 (tx s)
  rw [← cI] at hl
  rw [decide_eq_false (by omega),if_neg h,cond_false,if_pos (by omega),nF,Fo]
  by_cases q:(tx s).all okB=true
  ·rw [if_pos q,if_pos q,Option.bind_some]
   simp only
   rw [if_pos (by omega),if_pos (by decide),wj,if_pos (by simp;omega),AH _ _ _ (by simp;omega),Option.bind_some]
   simp only [List.nil_append]
   by_cases r:10<(((bC 32 (tx s)).map ofTx).filter aO).length
   ·rw [decide_eq_true (by omega),if_pos r];rfl
   ·rw [decide_eq_false (by omega),if_neg r];rfl
  ·rw [if_neg q,if_neg q];rfl
theorem zP {l:List UInt8} {i:Nat} (h:i<l.length):∃ b r,l.drop i=b::r∧l[i]?=some b∧l.drop (i+1)=r:=by
 refine ⟨l[i],l.drop (i+1),List.drop_eq_getElem_cons h,List.getElem?_eq_getElem h,rfl⟩
theorem Ft (s:ByteArray) (hs:s.size≤2000000):∀ (m i a:Nat) (v:List ByteArray) (n:Nat),i+m=(tx s).length→m+1<n→a≤i→v.length+m≤2000000 →
  cB s n v (a:Int) (i:Int)=some (if ((tx s).drop i).all okB=true then .x0 (v++((fV (seg (tx s) a i) (bC 32 ((tx s).drop i))).map ofTx).filter aO) else .ret [] false)
 | m,i,a,v,n,hi,hn,ha,hv=>by
  obtain ⟨n,rfl⟩:∃ k,n=k+2:=⟨n-2,by omega⟩
  have hsz:=cI s
  unfold cB
  rw [decide_eq_true (by omega:(i:Int)≤(s.size:Int)),cond_true]
  have hinc:inc (i:Int)=((i+1:Nat):Int):=by rw [fg _ (by omega) (by omega)];omega
  cases m with
  | zero =>
   have hd:(tx s).drop i=[]:=List.drop_eq_nil_of_le (by omega)
   have stop:∀ w b,cB s (n+1) w b ((i+1:Nat):Int)=some (.x0 w):=fun w b=>by
    unfold cB
    rw [decide_eq_false (by omega)];rfl
   have hc:fV (seg (tx s) a i) (bC 32 ([]:List UInt8))=[seg (tx s) a i]:=by simp [bC,fV]
   have hf:([seg (tx s) a i].map ofTx).filter aO=if a=i then [] else [s.extract a i]:=by
    rw [List.map_cons,List.map_nil,List.filter_cons,zO,CT ha (by omega),kj]
    by_cases q:a=i
    ·rw [if_pos q,decide_eq_true q];rfl
    ·rw [if_neg q,decide_eq_false q];rfl
   rw [decide_eq_false (by omega:¬ (i:Int)<(s.size:Int)),cond_false,hinc,hd,hc,hf,List.all_nil,if_pos rfl]
   by_cases q:a=i
   ·rw [decide_eq_false (by omega),cond_false,stop,if_pos q,List.append_nil]
   ·rw [decide_eq_true (by omega),cond_true,if_pos (by omega),if_pos (by simp;omega),stop,if_neg q];rfl
  | succ m =>
   obtain ⟨b,r,hd,hg,hr⟩:=zP (l:=tx s) (i:=i) (by omega)
   have hb:=zo hg
   have ih:=fun a' v' (h1:a'≤i+1) (h2:v'.length+m≤2000000)=>Ft s hs m (i+1) a' v' (n+1) (by omega) (by omega) h1 h2
   rw [hr] at ih
   rw [decide_eq_true (by omega:(i:Int)<(s.size:Int)),cond_true,if_pos (by omega),hb,hinc,hd,List.all_cons]
   have bl:=b.toNat_lt
   by_cases h:b.toNat<32
   ·rw [decide_eq_true (by omega:((b.toNat:Int)<32)),cond_true,Fk h];rfl
   ·rw [decide_eq_false (by omega:¬ ((b.toNat:Int)<32)),cond_false]
    by_cases h':126<b.toNat
    ·rw [decide_eq_true (by omega:((b.toNat:Int)>126)),cond_true,Fi h'];rfl
    ·rw [decide_eq_false (by omega:¬ ((b.toNat:Int)>126)),cond_false,Fj h h',Bool.true_and]
     by_cases q:b=32
     ·subst q
      have e:(((32:UInt8).toNat:Int) != 32)=false:=by decide
      rw [e,cond_false,nS]
      have hgl:fV (seg (tx s) a i) ([]::bC 32 r)=seg (tx s) a i::bC 32 r:=by simp [fV]
      rw [hgl,List.map_cons,List.filter_cons,zO,CT ha (by omega)]
      have hz:fV (seg (tx s) (i+1) (i+1)) (bC 32 r)=bC 32 r:=by rw [oy];exact qL _ (fX _ _)
      by_cases q:a=i
      ·have:=ih (i+1) v (by omega) (by omega)
       rw [hz] at this
       rw [decide_eq_false (by omega),cond_false,this,decide_eq_true q];rfl
      ·have:=ih (i+1) (v++[s.extract a i]) (by omega) (by simp;omega)
       rw [hz] at this
       rw [decide_eq_true (by omega),cond_true,if_pos (by omega),if_pos (by simp;omega)]
       rw [show ((a:Int).toNat)=a by omega,show ((i:Int).toNat)=i by omega,this,decide_eq_false q,kj]
       simp
     ·have e:((b.toNat:Int) != 32)=true:=by
       rw [bne_iff_ne]
       intro h
       exact q (UInt8.toNat_inj.1 (by show b.toNat=32;omega))
      rw [e,cond_true,ih a v (by omega) (by omega),k9 q,xL _ _ _ (fX _ _), ← Bf ha hg]
theorem Fq (s:ByteArray):mE s=some (aC s):=by
 unfold mE aC
 by_cases h:600<s.size
 ·rw [decide_eq_true (by omega),if_pos h];rfl
 ·have hz:fV (seg (tx s) 0 0) (bC 32 (tx s))=bC 32 (tx s):=by rw [oy];exact qL _ (fX _ _)
  have e:=Ft s (by omega) (tx s).length 0 0 [] 9223372036854775808 (by omega) (by rw [← cI];omega) (by omega) (by rw [← cI];simp;omega)
  rw [List.drop_zero,hz,List.nil_append] at e
  rw [decide_eq_false (by omega),if_neg h,cond_false]
  refine (congrArg (Option.bind · _) e).trans ?_
  by_cases q:(tx s).all okB=true
  ·rw [if_pos q,if_pos q,Option.bind_some]
   simp only
   by_cases r:10<(((bC 32 (tx s)).map ofTx).filter aO).length
   ·rw [decide_eq_true (by omega),if_pos r];rfl
   ·rw [decide_eq_false (by omega),if_neg r];rfl
  ·rw [if_neg q,if_neg q];rfl
theorem pv {s p:ByteArray} (h:p∈(aC s).1):p.size≤600:=by
 unfold aC at h
 split at h
 ·cases h
 ·rename_i h0
  split at h
  ·split at h
   ·cases h
   ·obtain ⟨x,hx,rfl⟩:=List.mem_map.1 (List.mem_filter.1 h).1
    have:=uB _ _ x hx
    rw [mQ]
    rw [← cI] at this
    omega
  ·cases h
theorem BA (x0:ByteArray):Does E 66 [.one (tS x0)] [(false,[.s .own () 1 (((aC x0).1).map etS)]),(false,[tB ((aC x0).2)])]:=by
 exact Co x0 _ (Fq x0)
theorem kw (x0:ByteArray) {bb:Bool} (hbb:(aC x0).2=bb):Does E 66 [.one (tS x0)] [(false,[.s .own () 1 (((aC x0).1).map etS)]),(false,[tB bb])]:=by rw [← hbb];exact BA x0
theorem Bw (x0:ByteArray):Does E 90 [.one (tS x0)] [(false,[.s .own () 1 (((aC x0).1).map etS)]),(false,[tB ((aC x0).2)])]:=by
 exact B1 x0 _ (Fp x0)
theorem kv (x0:ByteArray) {bb:Bool} (hbb:(aC x0).2=bb):Does E 90 [.one (tS x0)] [(false,[.s .own () 1 (((aC x0).1).map etS)]),(false,[tB bb])]:=by rw [← hbb];exact Bw x0
inductive ou where
 | ret (v2:Int) (v3:Bool)
 | x0 (v4:Int)
def dJ (v0:ByteArray) (v4 v5:Int):US:=stL 42 [(0,.one (tS v0)),(4,.one (tI v4)),(5,.one (tI v5))]
def fU (zv2:Int) (zv3:Bool):US:=stL 42 [(2,.one (tI zv2)),(3,.one (tB zv3))]
def eN (v0:ByteArray) (zv4:Int):US:=stL 42 [(0,.one (tS v0)),(4,.one (tI zv4))]
abbrev iu:US→Exit→US→Prop:=Round E 99 (av Tryz.f99 0)
def uW (v0:ByteArray) (v4 v5:Int):ou→Prop
 | .ret zv2 zv3=>Loops E 99 (av Tryz.f99 0) (dJ v0 v4 v5) .ret (fU zv2 zv3)
 | .x0 zv4=>Loops E 99 (av Tryz.f99 0) (dJ v0 v4 v5) (.exit 0) (eN v0 zv4)
noncomputable def dK (v0:ByteArray):List Int→Nat→Int→Option ou
 | [],i,v4=>some (.x0 v4)
 | hd::rest,i,v4=>cond (decide (hd<(48:Int)))
  (some (.ret (0:Int) false))
  (cond (decide (hd>(57:Int)))
   (some (.ret (0:Int) false))
   (dK v0 rest (i+1) (IntKind.wrap .i64 ((IntKind.wrap .i64 ((IntKind.wrap .i64 ((10:Int)*v4))+(IntKind.wrap .i64 hd)))-(48:Int)))))
theorem uV (v0:ByteArray) (rest:List Int):∀ (i:Nat) (v4:Int),(bH v0).drop i=rest→v0.size≤9223372036854775807→Ans (dK v0 rest i v4) (uW v0 v4 (i:Int)):=by
 induction rest with
 | nil =>
  intro i v4 hE hl
  have hb:=nV hE
  unfold dK
  exact JG (JI (show iu (dJ v0 v4 (i:Int)) (.exit 0) (eN v0 v4) from RP [.b false] (AC hb<|AN)) (by intro h;cases h))
 | cons hd rest ih =>
  intro i v4 hE hl
  have hb:=mO hE
  have hw:=mP hE hl
  have hE2:=aK hE
  have hp:=pT hE
  obtain rfl:=pS hE
  unfold dK
  apply JJ<;>intro h2
  ·exact JG (JI (show iu (dJ v0 v4 (i:Int)) .ret (fU (0:Int) false) from RP [.b true,.b true] (AC hb<|AC hp<|AC h2<|AN)) (by intro h;cases h))
  ·apply JJ<;>intro h3
   ·exact JG (JI (show iu (dJ v0 v4 (i:Int)) .ret (fU (0:Int) false) from RP [.b true,.b false,.b true] (AC hb<|AC hp<|AC h2<|AC hp<|AC h3<|AN)) (by intro h;cases h))
   ·exact (ih (i+1) (IntKind.wrap .i64 ((IntKind.wrap .i64 ((IntKind.wrap .i64 ((10:Int)*v4))+(IntKind.wrap .i64 (fk v0 (i:Int)))))-(48:Int))) hE2 hl).mono fun y hy=>by have r:iu (dJ v0 v4 (i:Int)) .normal (dJ v0 (IntKind.wrap .i64 ((IntKind.wrap .i64 ((IntKind.wrap .i64 ((10:Int)*v4))+(IntKind.wrap .i64 (fk v0 (i:Int)))))-(48:Int))) (inc (i:Int))):=RP [.b true,.b false,.b false] (AC hb<|AC hp<|AC h2<|AC hp<|AC h3<|AC hp<|AN);rw [hw] at r;cases y<;>exact JH r hy
noncomputable def ja (x0:ByteArray):Option (Int×Bool) :=
  cond (decide ((x0.size:Int)>(10:Int)))
   (some ((0:Int),false))
   (if x0.size≤9223372036854775807 then (dK x0 (bH x0) 0 (0:Int)).bind fun y=>match y with
    | .ret w0_2 w0_3=>(some (w0_2,w0_3))
    | .x0 w0_4=>(cond (decide (w0_4>(1000000000:Int)))
     (some ((0:Int),false))
     (if -9223372036854775808≤w0_4∧w0_4≤9223372036854775807 then cond (!((bd w0_4).toList==x0.toList))
      (some ((0:Int),false))
      (some (w0_4,true)) else none)) else none)
theorem wg (x0:ByteArray):Ans (ja x0) (fun r=>Does E 99 [.one (tS x0)] [(false,[tI r.1]),(false,[tB r.2])]):=by
 unfold ja
 apply JJ<;>intro h0
 ·exact JG (DP Tryz.f99 [.b true] (AC h0<|AN))
 ·refine JL (fun hl2 => ?_)
  refine JK (fun y hy => ?_)
  replace hy:=uV x0 (bH x0) 0 (0:Int) rfl hl2 y hy
  cases y with
  | ret w0_2 w0_3 =>
   have h1:=hy
   exact JG (DP Tryz.f99 [.b false,.lp .ret (fU w0_2 w0_3)] (AC h0<|AL h1<|AN))
  | x0 w0_4 =>
   have h1:=hy
   apply JJ<;>intro h2
   ·exact JG (DP Tryz.f99 [.b false,.lp (.exit 0) (eN x0 w0_4),.b true] (AC h0<|AL h1<|AC h2<|AN))
   ·refine JL (fun h3 => ?_)
    apply JJ<;>intro h4
    ·exact JG (DP Tryz.f99 [.b false,.lp (.exit 0) (eN x0 w0_4),.b false,.ret [(false,[tS (bd w0_4)])],.b true] (AC h0<|AL h1<|AC h2<|AD (mv w0_4 h3)<|AC h4<|AN))
    ·exact JG (DP Tryz.f99 [.b false,.lp (.exit 0) (eN x0 w0_4),.b false,.ret [(false,[tS (bd w0_4)])],.b false] (AC h0<|AL h1<|AC h2<|AD (mv w0_4 h3)<|AC h4<|AN))
inductive oa where
 | ret (v2:Int) (v3:Bool)
 | x0 (v4:Int)
def dF (v0:ByteArray) (v4 v5:Int):US:=stL 47 [(0,.one (tS v0)),(4,.one (tI v4)),(5,.one (tI v5))]
def fT (zv2:Int) (zv3:Bool):US:=stL 47 [(2,.one (tI zv2)),(3,.one (tB zv3))]
def eI (v0:ByteArray) (zv4:Int):US:=stL 47 [(0,.one (tS v0)),(4,.one (tI zv4))]
abbrev ij:US→Exit→US→Prop:=Round E 114 (av Tryz.f114 0)
def uJ (v0:ByteArray) (v4 v5:Int):oa→Prop
 | .ret zv2 zv3=>Loops E 114 (av Tryz.f114 0) (dF v0 v4 v5) .ret (fT zv2 zv3)
 | .x0 zv4=>Loops E 114 (av Tryz.f114 0) (dF v0 v4 v5) (.exit 0) (eI v0 zv4)
noncomputable def dG (v0:ByteArray):List Int→Nat→Int→Option oa
 | [],i,v4=>some (.x0 v4)
 | hd::rest,i,v4=>cond (decide (hd<(48:Int)))
  (some (.ret (0:Int) false))
  (cond (decide (hd>(57:Int)))
   (some (.ret (0:Int) false))
   (dG v0 rest (i+1) (IntKind.wrap .i64 ((IntKind.wrap .i64 (v4*(10:Int)))+(IntKind.wrap .i64 (IntKind.wrap .u8 (hd-(48:Int))))))))
theorem uI (v0:ByteArray) (rest:List Int):∀ (i:Nat) (v4:Int),(bH v0).drop i=rest→v0.size≤9223372036854775807→Ans (dG v0 rest i v4) (uJ v0 v4 (i:Int)):=by
 induction rest with
 | nil =>
  intro i v4 hE hl
  have hb:=nV hE
  unfold dG
  exact JG (JI (show ij (dF v0 v4 (i:Int)) (.exit 0) (eI v0 v4) from RP [.b false] (AC hb<|AN)) (by intro h;cases h))
 | cons hd rest ih =>
  intro i v4 hE hl
  have hb:=mO hE
  have hw:=mP hE hl
  have hE2:=aK hE
  have hp:=pT hE
  obtain rfl:=pS hE
  unfold dG
  apply JJ<;>intro h2
  ·exact JG (JI (show ij (dF v0 v4 (i:Int)) .ret (fT (0:Int) false) from RP [.b true,.b true] (AC hb<|AC hp<|AC h2<|AN)) (by intro h;cases h))
  ·apply JJ<;>intro h3
   ·exact JG (JI (show ij (dF v0 v4 (i:Int)) .ret (fT (0:Int) false) from RP [.b true,.b false,.b true] (AC hb<|AC hp<|AC h2<|AC hp<|AC h3<|AN)) (by intro h;cases h))
   ·exact (ih (i+1) (IntKind.wrap .i64 ((IntKind.wrap .i64 (v4*(10:Int)))+(IntKind.wrap .i64 (IntKind.wrap .u8 ((fk v0 (i:Int))-(48:Int)))))) hE2 hl).mono fun y hy=>by have r:ij (dF v0 v4 (i:Int)) .normal (dF v0 (IntKind.wrap .i64 ((IntKind.wrap .i64 (v4*(10:Int)))+(IntKind.wrap .i64 (IntKind.wrap .u8 ((fk v0 (i:Int))-(48:Int)))))) (inc (i:Int))):=RP [.b true,.b false,.b false] (AC hb<|AC hp<|AC h2<|AC hp<|AC h3<|AC hp<|AN);rw [hw] at r;cases y<;>exact JH r hy
noncomputable def iX (x0:ByteArray):Option (Int×Bool) :=
  cond ((x0.size:Int)==(0:Int))
   (some ((0:Int),false))
   (cond (decide ((x0.size:Int)>(10:Int)))
    (some ((0:Int),false))
    (if x0.size≤9223372036854775807 then (dG x0 (bH x0) 0 (0:Int)).bind fun y=>match y with
     | .ret w0_2 w0_3=>(some (w0_2,w0_3))
     | .x0 w0_4=>(cond (decide (w0_4>(1000000000:Int)))
      (some ((0:Int),false))
      (if -9223372036854775808≤w0_4∧w0_4≤9223372036854775807 then cond (!((bd w0_4).toList==x0.toList))
       (some ((0:Int),false))
       (some (w0_4,true)) else none)) else none))
theorem vF (x0:ByteArray):Ans (iX x0) (fun r=>Does E 114 [.one (tS x0)] [(false,[tI r.1]),(false,[tB r.2])]):=by
 unfold iX
 apply JJ<;>intro h0
 ·exact JG (DP Tryz.f114 [.b true] (AC h0<|AN))
 ·apply JJ<;>intro h1
  ·exact JG (DP Tryz.f114 [.b false,.b true] (AC h0<|AC h1<|AN))
  ·refine JL (fun hl3 => ?_)
   refine JK (fun y hy => ?_)
   replace hy:=uI x0 (bH x0) 0 (0:Int) rfl hl3 y hy
   cases y with
   | ret w0_2 w0_3 =>
    have h2:=hy
    exact JG (DP Tryz.f114 [.b false,.b false,.lp .ret (fT w0_2 w0_3)] (AC h0<|AC h1<|AL h2<|AN))
   | x0 w0_4 =>
    have h2:=hy
    apply JJ<;>intro h3
    ·exact JG (DP Tryz.f114 [.b false,.b false,.lp (.exit 0) (eI x0 w0_4),.b true] (AC h0<|AC h1<|AL h2<|AC h3<|AN))
    ·refine JL (fun h4 => ?_)
     apply JJ<;>intro h5
     ·exact JG (DP Tryz.f114 [.b false,.b false,.lp (.exit 0) (eI x0 w0_4),.b false,.ret [(false,[tS (bd w0_4)])],.b true] (AC h0<|AC h1<|AL h2<|AC h3<|AD (o8 w0_4 h4)<|AC h5<|AN))
     ·exact JG (DP Tryz.f114 [.b false,.b false,.lp (.exit 0) (eI x0 w0_4),.b false,.ret [(false,[tS (bd w0_4)])],.b false] (AC h0<|AC h1<|AL h2<|AC h3<|AD (o8 w0_4 h4)<|AC h5<|AN))
def jM:List UInt8→Int→Option Int
 | [],v=>some v
 | b::l,v=>if 48≤b.toNat∧b.toNat≤57 then jM l (10*v+((b.toNat:Int)-48)) else none
noncomputable def ae (s:ByteArray):Int×Bool :=
 if 10<s.size then (0,false) else match jM (tx s) 0 with
  | none=>(0,false)
  | some n=>if 1000000000<n then (0,false) else if tx (bd n)=tx s then (n,true) else (0,false)
theorem un:∀ (l:List UInt8) (v:Int) (k:Nat) (r:Int),0≤v→v<10 ^ k→jM l v=some r→0≤r∧r<10 ^ (k+l.length)
 | [],v,k,r,h0,h1,h=>by cases h;exact ⟨h0,h1⟩
 | b::l,v,k,r,h0,h1,h=>by
  unfold jM at h
  split at h
  ·rename_i hb
   have:=un l (10*v+((b.toNat:Int)-48)) (k+1) r (by omega) (by rw [Int.pow_succ];omega) h
   rw [List.length_cons,show k+(l.length+1)=k+1+l.length by omega]
   exact this
  ·cases h
theorem AP {k n:Nat} (h:k≤n):(10:Int) ^ k≤10 ^ n:=by
 have:=Nat.pow_le_pow_right (n:=10) (by omega) h
 have e:∀ m:Nat,(10:Int) ^ m=((10 ^ m:Nat):Int):=fun m=>by simp
 rw [e,e];omega
theorem AS (s:ByteArray):∀ (l:List UInt8) (i:Nat) (v:Int) (k:Nat),0≤v→v<10 ^ k→k+l.length≤10 →
  dK s (l.map fun b=>(b.toNat:Int)) i v=some (match jM l v with | some r => .x0 r | none => .ret 0 false) ∧
  dG s (l.map fun b=>(b.toNat:Int)) i v=some (match jM l v with | some r => .x0 r | none => .ret 0 false)
 | [],i,v,k,_,_,_=>⟨rfl,rfl⟩
 | b::l,i,v,k,h0,h1,hk=>by
  have hp:=AP (show k≤10 by omega)
  have e10:(10:Int) ^ 10=10000000000:=by decide
  rw [List.map_cons]
  unfold dK dG jM
  have bl:=b.toNat_lt
  by_cases h:b.toNat<48
  ·rw [decide_eq_true (by omega:((b.toNat:Int)<48)),if_neg (by omega)]
   exact ⟨rfl,rfl⟩
  ·rw [decide_eq_false (by omega:¬ ((b.toNat:Int)<48)),cond_false,cond_false]
   by_cases h':57<b.toNat
   ·rw [decide_eq_true (by omega:((b.toNat:Int)>57)),if_neg (by omega)]
    exact ⟨rfl,rfl⟩
   ·rw [decide_eq_false (by omega:¬ ((b.toNat:Int)>57)),if_pos (by omega),cond_false,cond_false]
    have w1:IntKind.wrap .i64 (IntKind.wrap .i64 (IntKind.wrap .i64 (10*v)+IntKind.wrap .i64 (b.toNat:Int))-48)=10*v+((b.toNat:Int)-48):=by
     rw [de (10*v) (by omega) (by omega),de (b.toNat:Int) (by omega) (by omega),de (10*v+(b.toNat:Int)) (by omega) (by omega),de _ (by omega) (by omega)];omega
    have w2:IntKind.wrap .i64 (IntKind.wrap .i64 (v*10)+IntKind.wrap .i64 (IntKind.wrap .u8 ((b.toNat:Int)-48)))=10*v+((b.toNat:Int)-48):=by
     rw [GR (by omega) (by omega),de (v*10) (by omega) (by omega),de ((b.toNat:Int)-48) (by omega) (by omega),de _ (by omega) (by omega)];omega
    rw [w1,w2]
    simp only [List.length_cons] at hk
    exact AS s l (i+1) _ (k+1) (by omega) (by rw [Int.pow_succ];omega) (by omega)
theorem px {s:ByteArray} (h:¬ 10<s.size) {r:Int} (hr:jM (tx s) 0=some r):0≤r∧r<10000000000:=by
 have:=un (tx s) 0 0 r (by omega) (by decide) hr
 have hp:=AP (show 0+(tx s).length≤10 by rw [← cI];omega)
 have e10:(10:Int) ^ 10=10000000000:=by decide
 omega
theorem Fy (s:ByteArray):ja s=some (ae s):=by
 unfold ja ae
 by_cases h:10<s.size
 ·rw [decide_eq_true (by omega),if_pos h];rfl
 ·obtain ⟨e, -⟩:=AS s (tx s) 0 0 0 (by omega) (by decide) (by rw [← cI];omega)
  rw [decide_eq_false (by omega),if_neg h,cond_false,if_pos (by omega),nF,e]
  cases q:jM (tx s) 0 with
  | none=>rfl
  | some n =>
   obtain ⟨n0,n1⟩:=px h q
   simp only [Option.bind_some]
   by_cases z:1000000000<n
   ·rw [decide_eq_true (by omega),if_pos z];rfl
   ·rw [decide_eq_false (by omega),if_neg z,cond_false,if_pos (by omega),nM]
    by_cases y:tx (bd n)=tx s
    ·rw [decide_eq_true y,if_pos y];rfl
    ·rw [decide_eq_false y,if_neg y];rfl
theorem Fx (s:ByteArray):iX s=some (ae s):=by
 unfold iX ae
 by_cases hz:s.size=0
 ·have ht:tx s=[]:=List.eq_nil_of_length_eq_zero (by rw [← cI];exact hz)
  have e1:((s.size:Int)==0)=true:=by rw [hz];rfl
  rw [e1,cond_true,if_neg (by omega),ht]
  unfold jM
  simp only
  have:¬ tx (bd 0)=[]:=by
   unfold bd Lib.itoa
   rw [if_neg (by omega),Lib.decDigits,dif_pos (by simp)]
   simp [tx]
  rw [if_neg (by omega),if_neg this]
 have e1:((s.size:Int)==0)=false:=by rw [beq_eq_false_iff_ne];omega
 rw [e1,cond_false]
 by_cases h:10<s.size
 ·rw [decide_eq_true (by omega),if_pos h];rfl
 ·obtain ⟨-,e⟩:=AS s (tx s) 0 0 0 (by omega) (by decide) (by rw [← cI];omega)
  rw [decide_eq_false (by omega),if_neg h,cond_false,if_pos (by omega),nF,e]
  cases q:jM (tx s) 0 with
  | none=>rfl
  | some n =>
   obtain ⟨n0,n1⟩:=px h q
   simp only [Option.bind_some]
   by_cases z:1000000000<n
   ·rw [decide_eq_true (by omega),if_pos z];rfl
   ·rw [decide_eq_false (by omega),if_neg z,cond_false,if_pos (by omega),nM]
    by_cases y:tx (bd n)=tx s
    ·rw [decide_eq_true y,if_pos y];rfl
    ·rw [decide_eq_false y,if_neg y];rfl
theorem D8 (s:ByteArray):0≤(ae s).1∧(ae s).1≤1000000000:=by
 unfold ae
 split
 ·exact ⟨Int.le_refl _,by decide⟩
 ·rename_i h
  split
  ·exact ⟨Int.le_refl _,by decide⟩
  ·rename_i n q
   obtain ⟨n0,n1⟩:=px h q
   split
   ·exact ⟨Int.le_refl _,by decide⟩
   ·split
    ·exact ⟨n0,by show n≤_;omega⟩
    ·exact ⟨Int.le_refl _,by decide⟩
theorem xT:∀ {l:List UInt8} {b:UInt8} (v:Int),b∈l→¬ (48≤b.toNat∧b.toNat≤57)→jM l v=none
 | x::l,b,v,h,hb=>by
  unfold jM
  rcases List.mem_cons.1 h with rfl | h
  ·rw [if_neg hb]
  ·split
   ·exact xT _ h hb
   ·rfl
theorem um {s:ByteArray} {b:UInt8} (h:b∈tx s) (hb:¬ (48≤b.toNat∧b.toNat≤57)):ae s=(0,false):=by
 unfold ae
 rw [xT 0 h hb]
 split<;>rfl
theorem ll (x0:ByteArray):Does E 99 [.one (tS x0)] [(false,[tI ((ae x0).1)]),(false,[tB ((ae x0).2)])]:=by
 exact wg x0 _ (Fy x0)
theorem ap (x0:ByteArray) {bb:Bool} (hbb:(ae x0).2=bb):Does E 99 [.one (tS x0)] [(false,[tI ((ae x0).1)]),(false,[tB bb])]:=by rw [← hbb];exact ll x0
theorem oF (x0:ByteArray):Does E 114 [.one (tS x0)] [(false,[tI ((ae x0).1)]),(false,[tB ((ae x0).2)])]:=by
 exact vF x0 _ (Fx x0)
theorem bc (x0:ByteArray) {bb:Bool} (hbb:(ae x0).2=bb):Does E 114 [.one (tS x0)] [(false,[tI ((ae x0).1)]),(false,[tB bb])]:=by rw [← hbb];exact oF x0
inductive rJ where
 | x0 (v5:List ByteArray)
def eo (v0:ByteArray) (v1:Int) (v5:List ByteArray) (v6 v7:Int):US:=stL 36 [(0,.one (tS v0)),(1,.one (tY v1)),(5,.one (.s .own () 1 (v5.map etS))),(6,.one (tI v6)),(7,.one (tI v7))]
def lV (zv5:List ByteArray):US:=stL 36 [(5,.one (.s .own () 1 (zv5.map etS)))]
abbrev kK:US→Exit→US→Prop:=Round E 86 (av Tryz.f86 0)
def yL (v0:ByteArray) (v1:Int) (v5:List ByteArray) (v6 v7:Int):rJ→Prop
 | .x0 zv5=>Loops E 86 (av Tryz.f86 0) (eo v0 v1 v5 v6 v7) (.exit 0) (lV zv5)
noncomputable def cZ (v0:ByteArray) (v1:Int):Nat→(List ByteArray)→Int→Int→Option rJ
 | 0,_,_,_=>none
 | n+1,v5,v6,v7=>cond (decide (v7≤(v0.size:Int)))
  (cond (v7==(v0.size:Int))
   (if 0≤v6∧v6≤v7∧v7≤(v0.size:Int) then if (v5.length+([v0.extract v6.toNat v7.toNat]).length)*16≤140737488355328∧v5.length+([v0.extract v6.toNat v7.toNat]).length≤4611686018427387904 then cZ v0 v1 n (v5++([v0.extract v6.toNat v7.toNat])) (inc v7) (inc v7) else none else none)
   (if 0≤v7∧v7<(v0.size:Int) then cond ((fk v0 v7)==v1)
    (if 0≤v6∧v6≤v7∧v7≤(v0.size:Int) then if (v5.length+([v0.extract v6.toNat v7.toNat]).length)*16≤140737488355328∧v5.length+([v0.extract v6.toNat v7.toNat]).length≤4611686018427387904 then cZ v0 v1 n (v5++([v0.extract v6.toNat v7.toNat])) (inc v7) (inc v7) else none else none)
    (cZ v0 v1 n v5 v6 (inc v7)) else none))
  (some (.x0 v5))
theorem yK (v0:ByteArray) (v1:Int) (n:Nat):∀ (v5:List ByteArray) (v6 v7:Int),Ans (cZ v0 v1 n v5 v6 v7) (yL v0 v1 v5 v6 v7):=by
 induction n with
 | zero=>intros;exact Ans.none
 | succ n ih =>
  intro v5 v6 v7
  unfold cZ
  apply JJ<;>intro h0
  ·apply JJ<;>intro h1
   ·refine JL (fun h2 => ?_)
    refine JL (fun h3 => ?_)
    have r:kK (eo v0 v1 v5 v6 v7) .normal (eo v0 v1 (v5++([v0.extract v6.toNat v7.toNat])) (inc v7) (inc v7)):=RP [.b true,.b true,.rows ((v5++([v0.extract v6.toNat v7.toNat])).map etS)] (AC h0<|AC h1<|AC h2<|AAp etS (fun _=>rfl) h3<|AN);exact (ih (v5++([v0.extract v6.toNat v7.toNat])) (inc v7) (inc v7)).mono fun y hy=>by cases y<;>exact JH r hy
   ·refine JL (fun h2 => ?_)
    apply JJ<;>intro h3
    ·refine JL (fun h4 => ?_)
     refine JL (fun h5 => ?_)
     have r:kK (eo v0 v1 v5 v6 v7) .normal (eo v0 v1 (v5++([v0.extract v6.toNat v7.toNat])) (inc v7) (inc v7)):=RP [.b true,.b false,.b true,.rows ((v5++([v0.extract v6.toNat v7.toNat])).map etS)] (AC h0<|AC h1<|AC h2<|AC h3<|AC h4<|AAp etS (fun _=>rfl) h5<|AN);exact (ih (v5++([v0.extract v6.toNat v7.toNat])) (inc v7) (inc v7)).mono fun y hy=>by cases y<;>exact JH r hy
    ·have r:kK (eo v0 v1 v5 v6 v7) .normal (eo v0 v1 v5 v6 (inc v7)):=RP [.b true,.b false,.b false] (AC h0<|AC h1<|AC h2<|AC h3<|AN);exact (ih v5 v6 (inc v7)).mono fun y hy=>by cases y<;>exact JH r hy
  ·exact JG (JI (show kK (eo v0 v1 v5 v6 v7) (.exit 0) (lV v5) from RP [.b false] (AC h0<|AN)) (by intro h;cases h))
noncomputable def lW (x0:ByteArray) (x1:Int):Option ((List ByteArray)) :=
  (cZ x0 x1 9223372036854775808 ([]) (0:Int) (0:Int)).bind fun y=>match y with
   | .x0 w0_5=>(some (w0_5))
theorem Bb (x0:ByteArray) (x1:Int):Ans (lW x0 x1) (fun r=>Does E 86 [.one (tS x0),.one (tY x1)] [(false,[.s .own () 1 (r.map etS)])]):=by
 unfold lW
 refine JK (fun y hy => ?_)
 replace hy:=yK x0 x1 9223372036854775808 ([]) (0:Int) (0:Int) y hy
 cases y with
 | x0 w0_5 =>
  have h0:=hy
  exact JG (DP Tryz.f86 [.lp (.exit 0) (lV w0_5)] (AL h0<|AN))
noncomputable def aj (s:ByteArray) (c:Int):List ByteArray:=(bC (UInt8.ofNat c.toNat) (tx s)).map ofTx
theorem FJ (s:ByteArray) (c:UInt8) (hs:s.size≤2000000):∀ (m i a:Nat) (v:List ByteArray) (n:Nat),i+m=(tx s).length→m+1<n→a≤i→v.length+m≤2000000 →
  cZ s (c.toNat:Int) n v (a:Int) (i:Int)=some (.x0 (v++(fV (seg (tx s) a i) (bC c ((tx s).drop i))).map ofTx))
 | m,i,a,v,n,hi,hn,ha,hv=>by
  obtain ⟨n,rfl⟩:∃ k,n=k+2:=⟨n-2,by omega⟩
  have hsz:=cI s
  unfold cZ
  rw [decide_eq_true (by omega:(i:Int)≤(s.size:Int)),cond_true]
  have hinc:inc (i:Int)=((i+1:Nat):Int):=by rw [fg _ (by omega) (by omega)];omega
  cases m with
  | zero =>
   have hd:(tx s).drop i=[]:=List.drop_eq_nil_of_le (by omega)
   have stop:∀ w b,cZ s (c.toNat:Int) (n+1) w b ((i+1:Nat):Int)=some (.x0 w):=fun w b=>by
    unfold cZ
    rw [decide_eq_false (by omega)];rfl
   have hc:fV (seg (tx s) a i) (bC c ([]:List UInt8))=[seg (tx s) a i]:=by simp [bC,fV]
   have e:((i:Int)==(s.size:Int))=true:=by rw [beq_iff_eq];omega
   rw [e,cond_true,if_pos (by omega),if_pos (by simp;omega),hinc,stop,hd,hc,show ((a:Int).toNat)=a by omega,show ((i:Int).toNat)=i by omega,kj];rfl
  | succ m =>
   obtain ⟨b,r,hd,hg,hr⟩:=zP (l:=tx s) (i:=i) (by omega)
   have hb:=zo hg
   have ih:=fun a' v' (h1:a'≤i+1) (h2:v'.length+m≤2000000)=>FJ s c hs m (i+1) a' v' (n+1) (by omega) (by omega) h1 h2
   rw [hr] at ih
   have e:((i:Int)==(s.size:Int))=false:=by rw [beq_eq_false_iff_ne];omega
   rw [e,cond_false,if_pos (by omega),hb,hinc,hd]
   by_cases q:b=c
   ·subst q
    have hgl:fV (seg (tx s) a i) ([]::bC b r)=seg (tx s) a i::bC b r:=by simp [fV]
    have hz:fV (seg (tx s) (i+1) (i+1)) (bC b r)=bC b r:=by rw [oy];exact qL _ (fX _ _)
    have:=ih (i+1) (v++[s.extract a i]) (by omega) (by simp;omega)
    rw [hz] at this
    rw [beq_self_eq_true,cond_true,if_pos (by omega),if_pos (by simp;omega),nS,hgl]
    rw [show ((a:Int).toNat)=a by omega,show ((i:Int).toNat)=i by omega,this,kj]
    simp
   ·have e:((b.toNat:Int)==(c.toNat:Int))=false:=by
     rw [beq_eq_false_iff_ne]
     intro h
     exact q (UInt8.toNat_inj.1 (by omega))
    rw [e,cond_false,ih a v (by omega) (by omega),k9 q,xL _ _ _ (fX _ _), ← Bf ha hg]
theorem DO (s:ByteArray) (c:Int) (hs:s.size≤2000000) (hc:0≤c∧c<256):lW s c=some (aj s c):=by
 have hz:fV (seg (tx s) 0 0) (bC (UInt8.ofNat c.toNat) (tx s))=bC (UInt8.ofNat c.toNat) (tx s):=by rw [oy];exact qL _ (fX _ _)
 have e:=FJ s (UInt8.ofNat c.toNat) hs (tx s).length 0 0 [] 9223372036854775808 (by omega) (by rw [← cI];omega) (by omega) (by rw [← cI];simp;omega)
 have ec:(((UInt8.ofNat c.toNat).toNat:Nat):Int)=c:=by rw [UInt8.toNat_ofNat'];omega
 rw [List.drop_zero,hz,List.nil_append,ec] at e
 unfold lW aj
 refine (congrArg (Option.bind · _) e).trans ?_
 rfl
theorem aP (x0:ByteArray) (x1:Int) (h:x0.size≤2000000) (hc:0≤x1∧x1<256):Does E 86 [.one (tS x0),.one (tY x1)] [(false,[.s .own () 1 ((aj x0 x1).map etS)])]:=by
 exact Bb x0 x1 _ (DO x0 x1 h hc)
noncomputable def jr (x0:ByteArray) (x1 x2:Int):Option (Int×Int×Int×Bool) :=
  cond (x0.toList==(⟨#[42]⟩:ByteArray).toList)
   (some (x1,x2,(1:Int),true))
   (cond (decide ((x0.size:Int)>(2:Int)))
    (if 0≤(0:Int)∧(0:Int)≤(2:Int)∧(2:Int)≤(x0.size:Int) then cond ((x0.extract (0:Int).toNat (2:Int).toNat).toList==(⟨#[42,47]⟩:ByteArray).toList)
     (if 0≤(2:Int)∧(2:Int)≤(x0.size:Int)∧(x0.size:Int)≤(x0.size:Int) then cond ((ae (x0.extract (2:Int).toNat (x0.size:Int).toNat)).2)
      (some (x1,x2,(ae (x0.extract (2:Int).toNat (x0.size:Int).toNat)).1,decide (((ae (x0.extract (2:Int).toNat (x0.size:Int).toNat)).1)≥(1:Int))))
      (some (x1,x2,(ae (x0.extract (2:Int).toNat (x0.size:Int).toNat)).1,false)) else none)
     (if x0.size≤2000000 then if 0≤(45:Int)∧(45:Int)<256 then (aN (aj x0 (45:Int)) (0:Int)).bind fun g0=>cond ((ae g0).2)
      (cond (((aj x0 (45:Int)).length:Int)==(2:Int))
       ((aN (aj x0 (45:Int)) (1:Int)).bind fun g1=>cond ((ae g1).2)
        (cond (decide (((aj x0 (45:Int)).length:Int)≤(2:Int)))
         (cond (decide (x1≤((ae g0).1)))
          (cond (decide (((ae g0).1)≤((ae g1).1)))
           (some ((ae g0).1,(ae g1).1,(1:Int),decide (((ae g1).1)≤x2)))
           (some ((ae g0).1,(ae g1).1,(1:Int),false)))
          (some ((ae g0).1,(ae g1).1,(1:Int),false)))
         (some ((ae g0).1,(ae g1).1,(1:Int),false)))
        (some ((ae g0).1,(ae g1).1,(1:Int),false)))
       (cond (decide (((aj x0 (45:Int)).length:Int)≤(2:Int)))
        (cond (decide (x1≤((ae g0).1)))
         (cond (decide (((ae g0).1)≤((ae g0).1)))
          (some ((ae g0).1,(ae g0).1,(1:Int),decide (((ae g0).1)≤x2)))
          (some ((ae g0).1,(ae g0).1,(1:Int),false)))
         (some ((ae g0).1,(ae g0).1,(1:Int),false)))
        (some ((ae g0).1,(ae g0).1,(1:Int),false))))
      (cond (((aj x0 (45:Int)).length:Int)==(2:Int))
       ((aN (aj x0 (45:Int)) (1:Int)).bind fun g1=>some ((ae g0).1,(ae g1).1,(1:Int),false))
       (some ((ae g0).1,(ae g0).1,(1:Int),false))) else none else none) else none)
    (if x0.size≤2000000 then if 0≤(45:Int)∧(45:Int)<256 then (aN (aj x0 (45:Int)) (0:Int)).bind fun g0=>cond ((ae g0).2)
     (cond (((aj x0 (45:Int)).length:Int)==(2:Int))
      ((aN (aj x0 (45:Int)) (1:Int)).bind fun g1=>cond ((ae g1).2)
       (cond (decide (((aj x0 (45:Int)).length:Int)≤(2:Int)))
        (cond (decide (x1≤((ae g0).1)))
         (cond (decide (((ae g0).1)≤((ae g1).1)))
          (some ((ae g0).1,(ae g1).1,(1:Int),decide (((ae g1).1)≤x2)))
          (some ((ae g0).1,(ae g1).1,(1:Int),false)))
         (some ((ae g0).1,(ae g1).1,(1:Int),false)))
        (some ((ae g0).1,(ae g1).1,(1:Int),false)))
       (some ((ae g0).1,(ae g1).1,(1:Int),false)))
      (cond (decide (((aj x0 (45:Int)).length:Int)≤(2:Int)))
       (cond (decide (x1≤((ae g0).1)))
        (cond (decide (((ae g0).1)≤((ae g0).1)))
         (some ((ae g0).1,(ae g0).1,(1:Int),decide (((ae g0).1)≤x2)))
         (some ((ae g0).1,(ae g0).1,(1:Int),false)))
        (some ((ae g0).1,(ae g0).1,(1:Int),false)))
       (some ((ae g0).1,(ae g0).1,(1:Int),false))))
     (cond (((aj x0 (45:Int)).length:Int)==(2:Int))
      ((aN (aj x0 (45:Int)) (1:Int)).bind fun g1=>some ((ae g0).1,(ae g1).1,(1:Int),false))
      (some ((ae g0).1,(ae g0).1,(1:Int),false))) else none else none))
theorem A8 (x0:ByteArray) (x1 x2:Int):Ans (jr x0 x1 x2) (fun r=>Does E 87 [.one (tS x0),.one (tI x1),.one (tI x2)] [(false,[tI r.1]),(false,[tI r.2.1]),(false,[tI r.2.2.1]),(false,[tB r.2.2.2])]):=by
 unfold jr
 apply JJ<;>intro h0
 ·exact JG (DP Tryz.f87 [.b true] (AC h0<|AN))
 ·apply JJ<;>intro h1
  ·refine JL (fun h2 => ?_)
   apply JJ<;>intro h3
   ·refine JL (fun h4 => ?_)
    apply JJ<;>intro h5
    ·exact JG (DP Tryz.f87 [.b false,.b true,.b true,.ret [(false,[tI ((ae (x0.extract (2:Int).toNat (x0.size:Int).toNat)).1)]),(false,[tB true])]] (AC h0<|AC h1<|AC h2<|AC h3<|AC h4<|AD (ap (x0.extract (2:Int).toNat (x0.size:Int).toNat) h5)<|AN))
    ·exact JG (DP Tryz.f87 [.b false,.b true,.b true,.ret [(false,[tI ((ae (x0.extract (2:Int).toNat (x0.size:Int).toNat)).1)]),(false,[tB false])]] (AC h0<|AC h1<|AC h2<|AC h3<|AC h4<|AD (ap (x0.extract (2:Int).toNat (x0.size:Int).toNat) h5)<|AN))
   ·refine JL (fun h4 => ?_)
    refine JL (fun h5 => ?_)
    refine JK (fun g0 h6 => ?_)
    apply JJ<;>intro h7
    ·apply JJ<;>intro h8
     ·refine JK (fun g1 h9 => ?_)
      apply JJ<;>intro h10
      ·apply JJ<;>intro h11
       ·apply JJ<;>intro h12
        ·apply JJ<;>intro h13
         ·exact JG (DP Tryz.f87 [.b false,.b true,.b false,.ret [(false,[.s .own () 1 ((aj x0 (45:Int)).map etS)])],.row (etS g0),.ret [(false,[tI ((ae g0).1)]),(false,[tB true])],.val (.int .i64 ((aj x0 (45:Int)).length:Int)),.b true,.row (etS g1),.ret [(false,[tI ((ae g1).1)]),(false,[tB true])],.val (.int .i64 ((aj x0 (45:Int)).length:Int)),.b true,.b true,.b true] (AC h0<|AC h1<|AC h2<|AC h3<|AD (aP x0 (45:Int) h4 h5)<|AG etS h6<|AD (ap g0 h7)<|ALn (aj x0 (45:Int)) etS<|AC h8<|AG etS h9<|AD (ap g1 h10)<|ALn (aj x0 (45:Int)) etS<|AC h11<|AC h12<|AC h13<|AN))
         ·exact JG (DP Tryz.f87 [.b false,.b true,.b false,.ret [(false,[.s .own () 1 ((aj x0 (45:Int)).map etS)])],.row (etS g0),.ret [(false,[tI ((ae g0).1)]),(false,[tB true])],.val (.int .i64 ((aj x0 (45:Int)).length:Int)),.b true,.row (etS g1),.ret [(false,[tI ((ae g1).1)]),(false,[tB true])],.val (.int .i64 ((aj x0 (45:Int)).length:Int)),.b true,.b true,.b false] (AC h0<|AC h1<|AC h2<|AC h3<|AD (aP x0 (45:Int) h4 h5)<|AG etS h6<|AD (ap g0 h7)<|ALn (aj x0 (45:Int)) etS<|AC h8<|AG etS h9<|AD (ap g1 h10)<|ALn (aj x0 (45:Int)) etS<|AC h11<|AC h12<|AC h13<|AN))
        ·exact JG (DP Tryz.f87 [.b false,.b true,.b false,.ret [(false,[.s .own () 1 ((aj x0 (45:Int)).map etS)])],.row (etS g0),.ret [(false,[tI ((ae g0).1)]),(false,[tB true])],.val (.int .i64 ((aj x0 (45:Int)).length:Int)),.b true,.row (etS g1),.ret [(false,[tI ((ae g1).1)]),(false,[tB true])],.val (.int .i64 ((aj x0 (45:Int)).length:Int)),.b true,.b false] (AC h0<|AC h1<|AC h2<|AC h3<|AD (aP x0 (45:Int) h4 h5)<|AG etS h6<|AD (ap g0 h7)<|ALn (aj x0 (45:Int)) etS<|AC h8<|AG etS h9<|AD (ap g1 h10)<|ALn (aj x0 (45:Int)) etS<|AC h11<|AC h12<|AN))
       ·exact JG (DP Tryz.f87 [.b false,.b true,.b false,.ret [(false,[.s .own () 1 ((aj x0 (45:Int)).map etS)])],.row (etS g0),.ret [(false,[tI ((ae g0).1)]),(false,[tB true])],.val (.int .i64 ((aj x0 (45:Int)).length:Int)),.b true,.row (etS g1),.ret [(false,[tI ((ae g1).1)]),(false,[tB true])],.val (.int .i64 ((aj x0 (45:Int)).length:Int)),.b false] (AC h0<|AC h1<|AC h2<|AC h3<|AD (aP x0 (45:Int) h4 h5)<|AG etS h6<|AD (ap g0 h7)<|ALn (aj x0 (45:Int)) etS<|AC h8<|AG etS h9<|AD (ap g1 h10)<|ALn (aj x0 (45:Int)) etS<|AC h11<|AN))
      ·exact JG (DP Tryz.f87 [.b false,.b true,.b false,.ret [(false,[.s .own () 1 ((aj x0 (45:Int)).map etS)])],.row (etS g0),.ret [(false,[tI ((ae g0).1)]),(false,[tB true])],.val (.int .i64 ((aj x0 (45:Int)).length:Int)),.b true,.row (etS g1),.ret [(false,[tI ((ae g1).1)]),(false,[tB false])]] (AC h0<|AC h1<|AC h2<|AC h3<|AD (aP x0 (45:Int) h4 h5)<|AG etS h6<|AD (ap g0 h7)<|ALn (aj x0 (45:Int)) etS<|AC h8<|AG etS h9<|AD (ap g1 h10)<|AN))
     ·apply JJ<;>intro h9
      ·apply JJ<;>intro h10
       ·apply JJ<;>intro h11
        ·exact JG (DP Tryz.f87 [.b false,.b true,.b false,.ret [(false,[.s .own () 1 ((aj x0 (45:Int)).map etS)])],.row (etS g0),.ret [(false,[tI ((ae g0).1)]),(false,[tB true])],.val (.int .i64 ((aj x0 (45:Int)).length:Int)),.b false,.val (.int .i64 ((aj x0 (45:Int)).length:Int)),.b true,.b true,.b true] (AC h0<|AC h1<|AC h2<|AC h3<|AD (aP x0 (45:Int) h4 h5)<|AG etS h6<|AD (ap g0 h7)<|ALn (aj x0 (45:Int)) etS<|AC h8<|ALn (aj x0 (45:Int)) etS<|AC h9<|AC h10<|AC h11<|AN))
        ·exact JG (DP Tryz.f87 [.b false,.b true,.b false,.ret [(false,[.s .own () 1 ((aj x0 (45:Int)).map etS)])],.row (etS g0),.ret [(false,[tI ((ae g0).1)]),(false,[tB true])],.val (.int .i64 ((aj x0 (45:Int)).length:Int)),.b false,.val (.int .i64 ((aj x0 (45:Int)).length:Int)),.b true,.b true,.b false] (AC h0<|AC h1<|AC h2<|AC h3<|AD (aP x0 (45:Int) h4 h5)<|AG etS h6<|AD (ap g0 h7)<|ALn (aj x0 (45:Int)) etS<|AC h8<|ALn (aj x0 (45:Int)) etS<|AC h9<|AC h10<|AC h11<|AN))
       ·exact JG (DP Tryz.f87 [.b false,.b true,.b false,.ret [(false,[.s .own () 1 ((aj x0 (45:Int)).map etS)])],.row (etS g0),.ret [(false,[tI ((ae g0).1)]),(false,[tB true])],.val (.int .i64 ((aj x0 (45:Int)).length:Int)),.b false,.val (.int .i64 ((aj x0 (45:Int)).length:Int)),.b true,.b false] (AC h0<|AC h1<|AC h2<|AC h3<|AD (aP x0 (45:Int) h4 h5)<|AG etS h6<|AD (ap g0 h7)<|ALn (aj x0 (45:Int)) etS<|AC h8<|ALn (aj x0 (45:Int)) etS<|AC h9<|AC h10<|AN))
      ·exact JG (DP Tryz.f87 [.b false,.b true,.b false,.ret [(false,[.s .own () 1 ((aj x0 (45:Int)).map etS)])],.row (etS g0),.ret [(false,[tI ((ae g0).1)]),(false,[tB true])],.val (.int .i64 ((aj x0 (45:Int)).length:Int)),.b false,.val (.int .i64 ((aj x0 (45:Int)).length:Int)),.b false] (AC h0<|AC h1<|AC h2<|AC h3<|AD (aP x0 (45:Int) h4 h5)<|AG etS h6<|AD (ap g0 h7)<|ALn (aj x0 (45:Int)) etS<|AC h8<|ALn (aj x0 (45:Int)) etS<|AC h9<|AN))
    ·apply JJ<;>intro h8
     ·refine JK (fun g1 h9 => ?_)
      exact JG (DP Tryz.f87 [.b false,.b true,.b false,.ret [(false,[.s .own () 1 ((aj x0 (45:Int)).map etS)])],.row (etS g0),.ret [(false,[tI ((ae g0).1)]),(false,[tB false])],.val (.int .i64 ((aj x0 (45:Int)).length:Int)),.b true,.row (etS g1),.ret [(false,[tI ((ae g1).1)]),(false,[tB ((ae g1).2)])]] (AC h0<|AC h1<|AC h2<|AC h3<|AD (aP x0 (45:Int) h4 h5)<|AG etS h6<|AD (ap g0 h7)<|ALn (aj x0 (45:Int)) etS<|AC h8<|AG etS h9<|AD (ll g1)<|AN))
     ·exact JG (DP Tryz.f87 [.b false,.b true,.b false,.ret [(false,[.s .own () 1 ((aj x0 (45:Int)).map etS)])],.row (etS g0),.ret [(false,[tI ((ae g0).1)]),(false,[tB false])],.val (.int .i64 ((aj x0 (45:Int)).length:Int)),.b false] (AC h0<|AC h1<|AC h2<|AC h3<|AD (aP x0 (45:Int) h4 h5)<|AG etS h6<|AD (ap g0 h7)<|ALn (aj x0 (45:Int)) etS<|AC h8<|AN))
  ·refine JL (fun h2 => ?_)
   refine JL (fun h3 => ?_)
   refine JK (fun g0 h4 => ?_)
   apply JJ<;>intro h5
   ·apply JJ<;>intro h6
    ·refine JK (fun g1 h7 => ?_)
     apply JJ<;>intro h8
     ·apply JJ<;>intro h9
      ·apply JJ<;>intro h10
       ·apply JJ<;>intro h11
        ·exact JG (DP Tryz.f87 [.b false,.b false,.ret [(false,[.s .own () 1 ((aj x0 (45:Int)).map etS)])],.row (etS g0),.ret [(false,[tI ((ae g0).1)]),(false,[tB true])],.val (.int .i64 ((aj x0 (45:Int)).length:Int)),.b true,.row (etS g1),.ret [(false,[tI ((ae g1).1)]),(false,[tB true])],.val (.int .i64 ((aj x0 (45:Int)).length:Int)),.b true,.b true,.b true] (AC h0<|AC h1<|AD (aP x0 (45:Int) h2 h3)<|AG etS h4<|AD (ap g0 h5)<|ALn (aj x0 (45:Int)) etS<|AC h6<|AG etS h7<|AD (ap g1 h8)<|ALn (aj x0 (45:Int)) etS<|AC h9<|AC h10<|AC h11<|AN))
        ·exact JG (DP Tryz.f87 [.b false,.b false,.ret [(false,[.s .own () 1 ((aj x0 (45:Int)).map etS)])],.row (etS g0),.ret [(false,[tI ((ae g0).1)]),(false,[tB true])],.val (.int .i64 ((aj x0 (45:Int)).length:Int)),.b true,.row (etS g1),.ret [(false,[tI ((ae g1).1)]),(false,[tB true])],.val (.int .i64 ((aj x0 (45:Int)).length:Int)),.b true,.b true,.b false] (AC h0<|AC h1<|AD (aP x0 (45:Int) h2 h3)<|AG etS h4<|AD (ap g0 h5)<|ALn (aj x0 (45:Int)) etS<|AC h6<|AG etS h7<|AD (ap g1 h8)<|ALn (aj x0 (45:Int)) etS<|AC h9<|AC h10<|AC h11<|AN))
       ·exact JG (DP Tryz.f87 [.b false,.b false,.ret [(false,[.s .own () 1 ((aj x0 (45:Int)).map etS)])],.row (etS g0),.ret [(false,[tI ((ae g0).1)]),(false,[tB true])],.val (.int .i64 ((aj x0 (45:Int)).length:Int)),.b true,.row (etS g1),.ret [(false,[tI ((ae g1).1)]),(false,[tB true])],.val (.int .i64 ((aj x0 (45:Int)).length:Int)),.b true,.b false] (AC h0<|AC h1<|AD (aP x0 (45:Int) h2 h3)<|AG etS h4<|AD (ap g0 h5)<|ALn (aj x0 (45:Int)) etS<|AC h6<|AG etS h7<|AD (ap g1 h8)<|ALn (aj x0 (45:Int)) etS<|AC h9<|AC h10<|AN))
      ·exact JG (DP Tryz.f87 [.b false,.b false,.ret [(false,[.s .own () 1 ((aj x0 (45:Int)).map etS)])],.row (etS g0),.ret [(false,[tI ((ae g0).1)]),(false,[tB true])],.val (.int .i64 ((aj x0 (45:Int)).length:Int)),.b true,.row (etS g1),.ret [(false,[tI ((ae g1).1)]),(false,[tB true])],.val (.int .i64 ((aj x0 (45:Int)).length:Int)),.b false] (AC h0<|AC h1<|AD (aP x0 (45:Int) h2 h3)<|AG etS h4<|AD (ap g0 h5)<|ALn (aj x0 (45:Int)) etS<|AC h6<|AG etS h7<|AD (ap g1 h8)<|ALn (aj x0 (45:Int)) etS<|AC h9<|AN))
     ·exact JG (DP Tryz.f87 [.b false,.b false,.ret [(false,[.s .own () 1 ((aj x0 (45:Int)).map etS)])],.row (etS g0),.ret [(false,[tI ((ae g0).1)]),(false,[tB true])],.val (.int .i64 ((aj x0 (45:Int)).length:Int)),.b true,.row (etS g1),.ret [(false,[tI ((ae g1).1)]),(false,[tB false])]] (AC h0<|AC h1<|AD (aP x0 (45:Int) h2 h3)<|AG etS h4<|AD (ap g0 h5)<|ALn (aj x0 (45:Int)) etS<|AC h6<|AG etS h7<|AD (ap g1 h8)<|AN))
    ·apply JJ<;>intro h7
     ·apply JJ<;>intro h8
      ·apply JJ<;>intro h9
       ·exact JG (DP Tryz.f87 [.b false,.b false,.ret [(false,[.s .own () 1 ((aj x0 (45:Int)).map etS)])],.row (etS g0),.ret [(false,[tI ((ae g0).1)]),(false,[tB true])],.val (.int .i64 ((aj x0 (45:Int)).length:Int)),.b false,.val (.int .i64 ((aj x0 (45:Int)).length:Int)),.b true,.b true,.b true] (AC h0<|AC h1<|AD (aP x0 (45:Int) h2 h3)<|AG etS h4<|AD (ap g0 h5)<|ALn (aj x0 (45:Int)) etS<|AC h6<|ALn (aj x0 (45:Int)) etS<|AC h7<|AC h8<|AC h9<|AN))
       ·exact JG (DP Tryz.f87 [.b false,.b false,.ret [(false,[.s .own () 1 ((aj x0 (45:Int)).map etS)])],.row (etS g0),.ret [(false,[tI ((ae g0).1)]),(false,[tB true])],.val (.int .i64 ((aj x0 (45:Int)).length:Int)),.b false,.val (.int .i64 ((aj x0 (45:Int)).length:Int)),.b true,.b true,.b false] (AC h0<|AC h1<|AD (aP x0 (45:Int) h2 h3)<|AG etS h4<|AD (ap g0 h5)<|ALn (aj x0 (45:Int)) etS<|AC h6<|ALn (aj x0 (45:Int)) etS<|AC h7<|AC h8<|AC h9<|AN))
      ·exact JG (DP Tryz.f87 [.b false,.b false,.ret [(false,[.s .own () 1 ((aj x0 (45:Int)).map etS)])],.row (etS g0),.ret [(false,[tI ((ae g0).1)]),(false,[tB true])],.val (.int .i64 ((aj x0 (45:Int)).length:Int)),.b false,.val (.int .i64 ((aj x0 (45:Int)).length:Int)),.b true,.b false] (AC h0<|AC h1<|AD (aP x0 (45:Int) h2 h3)<|AG etS h4<|AD (ap g0 h5)<|ALn (aj x0 (45:Int)) etS<|AC h6<|ALn (aj x0 (45:Int)) etS<|AC h7<|AC h8<|AN))
     ·exact JG (DP Tryz.f87 [.b false,.b false,.ret [(false,[.s .own () 1 ((aj x0 (45:Int)).map etS)])],.row (etS g0),.ret [(false,[tI ((ae g0).1)]),(false,[tB true])],.val (.int .i64 ((aj x0 (45:Int)).length:Int)),.b false,.val (.int .i64 ((aj x0 (45:Int)).length:Int)),.b false] (AC h0<|AC h1<|AD (aP x0 (45:Int) h2 h3)<|AG etS h4<|AD (ap g0 h5)<|ALn (aj x0 (45:Int)) etS<|AC h6<|ALn (aj x0 (45:Int)) etS<|AC h7<|AN))
   ·apply JJ<;>intro h6
    ·refine JK (fun g1 h7 => ?_)
     exact JG (DP Tryz.f87 [.b false,.b false,.ret [(false,[.s .own () 1 ((aj x0 (45:Int)).map etS)])],.row (etS g0),.ret [(false,[tI ((ae g0).1)]),(false,[tB false])],.val (.int .i64 ((aj x0 (45:Int)).length:Int)),.b true,.row (etS g1),.ret [(false,[tI ((ae g1).1)]),(false,[tB ((ae g1).2)])]] (AC h0<|AC h1<|AD (aP x0 (45:Int) h2 h3)<|AG etS h4<|AD (ap g0 h5)<|ALn (aj x0 (45:Int)) etS<|AC h6<|AG etS h7<|AD (ll g1)<|AN))
    ·exact JG (DP Tryz.f87 [.b false,.b false,.ret [(false,[.s .own () 1 ((aj x0 (45:Int)).map etS)])],.row (etS g0),.ret [(false,[tI ((ae g0).1)]),(false,[tB false])],.val (.int .i64 ((aj x0 (45:Int)).length:Int)),.b false] (AC h0<|AC h1<|AD (aP x0 (45:Int) h2 h3)<|AG etS h4<|AD (ap g0 h5)<|ALn (aj x0 (45:Int)) etS<|AC h6<|AN))
noncomputable def kn (x0:ByteArray) (x1 x2:Int):Option (Int×Int×Int×Bool) :=
  cond (x0.toList==(⟨#[42]⟩:ByteArray).toList)
   (some (x1,x2,(1:Int),true))
   (cond ((bB x0 (⟨#[42,47]⟩:ByteArray)).2)
    (cond ((ae ((bB x0 (⟨#[42,47]⟩:ByteArray)).1)).2)
     (some (x1,x2,(ae ((bB x0 (⟨#[42,47]⟩:ByteArray)).1)).1,decide (((ae ((bB x0 (⟨#[42,47]⟩:ByteArray)).1)).1)≥(1:Int))))
     (some (x1,x2,(ae ((bB x0 (⟨#[42,47]⟩:ByteArray)).1)).1,false)))
    (if x0.size<4294967281 then cond ((aA x0 (⟨#[45]⟩:ByteArray)).2.2)
     (cond ((ae ((aA x0 (⟨#[45]⟩:ByteArray)).1)).2)
      (cond ((ae ((aA x0 (⟨#[45]⟩:ByteArray)).2.1)).2)
       (cond (decide (((ae ((aA x0 (⟨#[45]⟩:ByteArray)).1)).1)≥x1))
        (cond (decide (((ae ((aA x0 (⟨#[45]⟩:ByteArray)).1)).1)≤((ae ((aA x0 (⟨#[45]⟩:ByteArray)).2.1)).1)))
         (some ((ae ((aA x0 (⟨#[45]⟩:ByteArray)).1)).1,(ae ((aA x0 (⟨#[45]⟩:ByteArray)).2.1)).1,(1:Int),decide (((ae ((aA x0 (⟨#[45]⟩:ByteArray)).2.1)).1)≤x2)))
         (some ((ae ((aA x0 (⟨#[45]⟩:ByteArray)).1)).1,(ae ((aA x0 (⟨#[45]⟩:ByteArray)).2.1)).1,(1:Int),false)))
        (some ((ae ((aA x0 (⟨#[45]⟩:ByteArray)).1)).1,(ae ((aA x0 (⟨#[45]⟩:ByteArray)).2.1)).1,(1:Int),false)))
       (some ((ae ((aA x0 (⟨#[45]⟩:ByteArray)).1)).1,(ae ((aA x0 (⟨#[45]⟩:ByteArray)).2.1)).1,(1:Int),false)))
      (some ((ae ((aA x0 (⟨#[45]⟩:ByteArray)).1)).1,(ae ((aA x0 (⟨#[45]⟩:ByteArray)).2.1)).1,(1:Int),false)))
     (cond ((ae ((aA x0 (⟨#[45]⟩:ByteArray)).1)).2)
      (cond (decide (((ae ((aA x0 (⟨#[45]⟩:ByteArray)).1)).1)≥x1))
       (cond (decide (((ae ((aA x0 (⟨#[45]⟩:ByteArray)).1)).1)≤((ae ((aA x0 (⟨#[45]⟩:ByteArray)).1)).1)))
        (some ((ae ((aA x0 (⟨#[45]⟩:ByteArray)).1)).1,(ae ((aA x0 (⟨#[45]⟩:ByteArray)).1)).1,(1:Int),decide (((ae ((aA x0 (⟨#[45]⟩:ByteArray)).1)).1)≤x2)))
        (some ((ae ((aA x0 (⟨#[45]⟩:ByteArray)).1)).1,(ae ((aA x0 (⟨#[45]⟩:ByteArray)).1)).1,(1:Int),false)))
       (some ((ae ((aA x0 (⟨#[45]⟩:ByteArray)).1)).1,(ae ((aA x0 (⟨#[45]⟩:ByteArray)).1)).1,(1:Int),false)))
      (some ((ae ((aA x0 (⟨#[45]⟩:ByteArray)).1)).1,(ae ((aA x0 (⟨#[45]⟩:ByteArray)).1)).1,(1:Int),false))) else none))
theorem B4 (x0:ByteArray) (x1 x2:Int):Ans (kn x0 x1 x2) (fun r=>Does E 103 [.one (tS x0),.one (tI x1),.one (tI x2)] [(false,[tI r.1]),(false,[tI r.2.1]),(false,[tI r.2.2.1]),(false,[tB r.2.2.2])]):=by
 unfold kn
 apply JJ<;>intro h0
 ·exact JG (DP Tryz.f103 [.b true] (AC h0<|AN))
 ·apply JJ<;>intro h1
  ·apply JJ<;>intro h2
   ·exact JG (DP Tryz.f103 [.b false,.ret [(false,[tS ((bB x0 (⟨#[42,47]⟩:ByteArray)).1)]),(false,[tB true])],.ret [(false,[tI ((ae ((bB x0 (⟨#[42,47]⟩:ByteArray)).1)).1)]),(false,[tB true])]] (AC h0<|AD (JM (rs':=[(false,[tS ((bB x0 (⟨#[42,47]⟩:ByteArray)).1)]),(false,[tB true])]) (bq x0 (⟨#[42,47]⟩:ByteArray)) (by rw [h1]))<|AD (bc ((bB x0 (⟨#[42,47]⟩:ByteArray)).1) h2)<|AN))
   ·exact JG (DP Tryz.f103 [.b false,.ret [(false,[tS ((bB x0 (⟨#[42,47]⟩:ByteArray)).1)]),(false,[tB true])],.ret [(false,[tI ((ae ((bB x0 (⟨#[42,47]⟩:ByteArray)).1)).1)]),(false,[tB false])]] (AC h0<|AD (JM (rs':=[(false,[tS ((bB x0 (⟨#[42,47]⟩:ByteArray)).1)]),(false,[tB true])]) (bq x0 (⟨#[42,47]⟩:ByteArray)) (by rw [h1]))<|AD (bc ((bB x0 (⟨#[42,47]⟩:ByteArray)).1) h2)<|AN))
  ·refine JL (fun h2 => ?_)
   apply JJ<;>intro h3
   ·apply JJ<;>intro h4
    ·apply JJ<;>intro h5
     ·apply JJ<;>intro h6
      ·apply JJ<;>intro h7
       ·exact JG (DP Tryz.f103 [.b false,.ret [(false,[tS ((bB x0 (⟨#[42,47]⟩:ByteArray)).1)]),(false,[tB false])],.ret [(false,[tS ((aA x0 (⟨#[45]⟩:ByteArray)).1)]),(false,[tS ((aA x0 (⟨#[45]⟩:ByteArray)).2.1)]),(false,[tB true])],.ret [(false,[tI ((ae ((aA x0 (⟨#[45]⟩:ByteArray)).1)).1)]),(false,[tB true])],.ret [(false,[tI ((ae ((aA x0 (⟨#[45]⟩:ByteArray)).2.1)).1)]),(false,[tB true])],.b true,.b true] (AC h0<|AD (JM (rs':=[(false,[tS ((bB x0 (⟨#[42,47]⟩:ByteArray)).1)]),(false,[tB false])]) (bq x0 (⟨#[42,47]⟩:ByteArray)) (by rw [h1]))<|AD (JM (rs':=[(false,[tS ((aA x0 (⟨#[45]⟩:ByteArray)).1)]),(false,[tS ((aA x0 (⟨#[45]⟩:ByteArray)).2.1)]),(false,[tB true])]) (dB x0 (⟨#[45]⟩:ByteArray) h2) (by rw [h3]))<|AD (bc ((aA x0 (⟨#[45]⟩:ByteArray)).1) h4)<|AD (bc ((aA x0 (⟨#[45]⟩:ByteArray)).2.1) h5)<|AC h6<|AC h7<|AN))
       ·exact JG (DP Tryz.f103 [.b false,.ret [(false,[tS ((bB x0 (⟨#[42,47]⟩:ByteArray)).1)]),(false,[tB false])],.ret [(false,[tS ((aA x0 (⟨#[45]⟩:ByteArray)).1)]),(false,[tS ((aA x0 (⟨#[45]⟩:ByteArray)).2.1)]),(false,[tB true])],.ret [(false,[tI ((ae ((aA x0 (⟨#[45]⟩:ByteArray)).1)).1)]),(false,[tB true])],.ret [(false,[tI ((ae ((aA x0 (⟨#[45]⟩:ByteArray)).2.1)).1)]),(false,[tB true])],.b true,.b false] (AC h0<|AD (JM (rs':=[(false,[tS ((bB x0 (⟨#[42,47]⟩:ByteArray)).1)]),(false,[tB false])]) (bq x0 (⟨#[42,47]⟩:ByteArray)) (by rw [h1]))<|AD (JM (rs':=[(false,[tS ((aA x0 (⟨#[45]⟩:ByteArray)).1)]),(false,[tS ((aA x0 (⟨#[45]⟩:ByteArray)).2.1)]),(false,[tB true])]) (dB x0 (⟨#[45]⟩:ByteArray) h2) (by rw [h3]))<|AD (bc ((aA x0 (⟨#[45]⟩:ByteArray)).1) h4)<|AD (bc ((aA x0 (⟨#[45]⟩:ByteArray)).2.1) h5)<|AC h6<|AC h7<|AN))
      ·exact JG (DP Tryz.f103 [.b false,.ret [(false,[tS ((bB x0 (⟨#[42,47]⟩:ByteArray)).1)]),(false,[tB false])],.ret [(false,[tS ((aA x0 (⟨#[45]⟩:ByteArray)).1)]),(false,[tS ((aA x0 (⟨#[45]⟩:ByteArray)).2.1)]),(false,[tB true])],.ret [(false,[tI ((ae ((aA x0 (⟨#[45]⟩:ByteArray)).1)).1)]),(false,[tB true])],.ret [(false,[tI ((ae ((aA x0 (⟨#[45]⟩:ByteArray)).2.1)).1)]),(false,[tB true])],.b false] (AC h0<|AD (JM (rs':=[(false,[tS ((bB x0 (⟨#[42,47]⟩:ByteArray)).1)]),(false,[tB false])]) (bq x0 (⟨#[42,47]⟩:ByteArray)) (by rw [h1]))<|AD (JM (rs':=[(false,[tS ((aA x0 (⟨#[45]⟩:ByteArray)).1)]),(false,[tS ((aA x0 (⟨#[45]⟩:ByteArray)).2.1)]),(false,[tB true])]) (dB x0 (⟨#[45]⟩:ByteArray) h2) (by rw [h3]))<|AD (bc ((aA x0 (⟨#[45]⟩:ByteArray)).1) h4)<|AD (bc ((aA x0 (⟨#[45]⟩:ByteArray)).2.1) h5)<|AC h6<|AN))
     ·exact JG (DP Tryz.f103 [.b false,.ret [(false,[tS ((bB x0 (⟨#[42,47]⟩:ByteArray)).1)]),(false,[tB false])],.ret [(false,[tS ((aA x0 (⟨#[45]⟩:ByteArray)).1)]),(false,[tS ((aA x0 (⟨#[45]⟩:ByteArray)).2.1)]),(false,[tB true])],.ret [(false,[tI ((ae ((aA x0 (⟨#[45]⟩:ByteArray)).1)).1)]),(false,[tB true])],.ret [(false,[tI ((ae ((aA x0 (⟨#[45]⟩:ByteArray)).2.1)).1)]),(false,[tB false])]] (AC h0<|AD (JM (rs':=[(false,[tS ((bB x0 (⟨#[42,47]⟩:ByteArray)).1)]),(false,[tB false])]) (bq x0 (⟨#[42,47]⟩:ByteArray)) (by rw [h1]))<|AD (JM (rs':=[(false,[tS ((aA x0 (⟨#[45]⟩:ByteArray)).1)]),(false,[tS ((aA x0 (⟨#[45]⟩:ByteArray)).2.1)]),(false,[tB true])]) (dB x0 (⟨#[45]⟩:ByteArray) h2) (by rw [h3]))<|AD (bc ((aA x0 (⟨#[45]⟩:ByteArray)).1) h4)<|AD (bc ((aA x0 (⟨#[45]⟩:ByteArray)).2.1) h5)<|AN))
    ·exact JG (DP Tryz.f103 [.b false,.ret [(false,[tS ((bB x0 (⟨#[42,47]⟩:ByteArray)).1)]),(false,[tB false])],.ret [(false,[tS ((aA x0 (⟨#[45]⟩:ByteArray)).1)]),(false,[tS ((aA x0 (⟨#[45]⟩:ByteArray)).2.1)]),(false,[tB true])],.ret [(false,[tI ((ae ((aA x0 (⟨#[45]⟩:ByteArray)).1)).1)]),(false,[tB false])],.ret [(false,[tI ((ae ((aA x0 (⟨#[45]⟩:ByteArray)).2.1)).1)]),(false,[tB ((ae ((aA x0 (⟨#[45]⟩:ByteArray)).2.1)).2)])]] (AC h0<|AD (JM (rs':=[(false,[tS ((bB x0 (⟨#[42,47]⟩:ByteArray)).1)]),(false,[tB false])]) (bq x0 (⟨#[42,47]⟩:ByteArray)) (by rw [h1]))<|AD (JM (rs':=[(false,[tS ((aA x0 (⟨#[45]⟩:ByteArray)).1)]),(false,[tS ((aA x0 (⟨#[45]⟩:ByteArray)).2.1)]),(false,[tB true])]) (dB x0 (⟨#[45]⟩:ByteArray) h2) (by rw [h3]))<|AD (bc ((aA x0 (⟨#[45]⟩:ByteArray)).1) h4)<|AD (oF ((aA x0 (⟨#[45]⟩:ByteArray)).2.1))<|AN))
   ·apply JJ<;>intro h4
    ·apply JJ<;>intro h5
     ·apply JJ<;>intro h6
      ·exact JG (DP Tryz.f103 [.b false,.ret [(false,[tS ((bB x0 (⟨#[42,47]⟩:ByteArray)).1)]),(false,[tB false])],.ret [(false,[tS ((aA x0 (⟨#[45]⟩:ByteArray)).1)]),(false,[tS ((aA x0 (⟨#[45]⟩:ByteArray)).2.1)]),(false,[tB false])],.ret [(false,[tI ((ae ((aA x0 (⟨#[45]⟩:ByteArray)).1)).1)]),(false,[tB true])],.b true,.b true] (AC h0<|AD (JM (rs':=[(false,[tS ((bB x0 (⟨#[42,47]⟩:ByteArray)).1)]),(false,[tB false])]) (bq x0 (⟨#[42,47]⟩:ByteArray)) (by rw [h1]))<|AD (JM (rs':=[(false,[tS ((aA x0 (⟨#[45]⟩:ByteArray)).1)]),(false,[tS ((aA x0 (⟨#[45]⟩:ByteArray)).2.1)]),(false,[tB false])]) (dB x0 (⟨#[45]⟩:ByteArray) h2) (by rw [h3]))<|AD (bc ((aA x0 (⟨#[45]⟩:ByteArray)).1) h4)<|AC h5<|AC h6<|AN))
      ·exact JG (DP Tryz.f103 [.b false,.ret [(false,[tS ((bB x0 (⟨#[42,47]⟩:ByteArray)).1)]),(false,[tB false])],.ret [(false,[tS ((aA x0 (⟨#[45]⟩:ByteArray)).1)]),(false,[tS ((aA x0 (⟨#[45]⟩:ByteArray)).2.1)]),(false,[tB false])],.ret [(false,[tI ((ae ((aA x0 (⟨#[45]⟩:ByteArray)).1)).1)]),(false,[tB true])],.b true,.b false] (AC h0<|AD (JM (rs':=[(false,[tS ((bB x0 (⟨#[42,47]⟩:ByteArray)).1)]),(false,[tB false])]) (bq x0 (⟨#[42,47]⟩:ByteArray)) (by rw [h1]))<|AD (JM (rs':=[(false,[tS ((aA x0 (⟨#[45]⟩:ByteArray)).1)]),(false,[tS ((aA x0 (⟨#[45]⟩:ByteArray)).2.1)]),(false,[tB false])]) (dB x0 (⟨#[45]⟩:ByteArray) h2) (by rw [h3]))<|AD (bc ((aA x0 (⟨#[45]⟩:ByteArray)).1) h4)<|AC h5<|AC h6<|AN))
     ·exact JG (DP Tryz.f103 [.b false,.ret [(false,[tS ((bB x0 (⟨#[42,47]⟩:ByteArray)).1)]),(false,[tB false])],.ret [(false,[tS ((aA x0 (⟨#[45]⟩:ByteArray)).1)]),(false,[tS ((aA x0 (⟨#[45]⟩:ByteArray)).2.1)]),(false,[tB false])],.ret [(false,[tI ((ae ((aA x0 (⟨#[45]⟩:ByteArray)).1)).1)]),(false,[tB true])],.b false] (AC h0<|AD (JM (rs':=[(false,[tS ((bB x0 (⟨#[42,47]⟩:ByteArray)).1)]),(false,[tB false])]) (bq x0 (⟨#[42,47]⟩:ByteArray)) (by rw [h1]))<|AD (JM (rs':=[(false,[tS ((aA x0 (⟨#[45]⟩:ByteArray)).1)]),(false,[tS ((aA x0 (⟨#[45]⟩:ByteArray)).2.1)]),(false,[tB false])]) (dB x0 (⟨#[45]⟩:ByteArray) h2) (by rw [h3]))<|AD (bc ((aA x0 (⟨#[45]⟩:ByteArray)).1) h4)<|AC h5<|AN))
    ·exact JG (DP Tryz.f103 [.b false,.ret [(false,[tS ((bB x0 (⟨#[42,47]⟩:ByteArray)).1)]),(false,[tB false])],.ret [(false,[tS ((aA x0 (⟨#[45]⟩:ByteArray)).1)]),(false,[tS ((aA x0 (⟨#[45]⟩:ByteArray)).2.1)]),(false,[tB false])],.ret [(false,[tI ((ae ((aA x0 (⟨#[45]⟩:ByteArray)).1)).1)]),(false,[tB false])]] (AC h0<|AD (JM (rs':=[(false,[tS ((bB x0 (⟨#[42,47]⟩:ByteArray)).1)]),(false,[tB false])]) (bq x0 (⟨#[42,47]⟩:ByteArray)) (by rw [h1]))<|AD (JM (rs':=[(false,[tS ((aA x0 (⟨#[45]⟩:ByteArray)).1)]),(false,[tS ((aA x0 (⟨#[45]⟩:ByteArray)).2.1)]),(false,[tB false])]) (dB x0 (⟨#[45]⟩:ByteArray) h2) (by rw [h3]))<|AD (bc ((aA x0 (⟨#[45]⟩:ByteArray)).1) h4)<|AN))
def rS (r:Int×Int×Int×Bool) (o:Option (Int×Int×Int)):Prop :=
 match o with | some (a,b,c)=>r=(a,b,c,true) | none=>r.2.2.2=false
noncomputable def qi (ps:List (List UInt8)) (lo hi:Int):Option (Int×Int×Int) :=
 match ps with
 | [p]=>if (ae (ofTx p)).2=true∧lo≤(ae (ofTx p)).1∧(ae (ofTx p)).1≤hi then some ((ae (ofTx p)).1,(ae (ofTx p)).1,1) else none
 | [p,q]=>if (ae (ofTx p)).2=true∧(ae (ofTx q)).2=true∧lo≤(ae (ofTx p)).1∧(ae (ofTx p)).1≤(ae (ofTx q)).1∧(ae (ofTx q)).1≤hi then some ((ae (ofTx p)).1,(ae (ofTx q)).1,1) else none
 | _=>none
theorem uS (p:List UInt8) (lo hi:Int):qi [p] lo hi=if (ae (ofTx p)).2=true∧lo≤(ae (ofTx p)).1∧(ae (ofTx p)).1≤hi then some ((ae (ofTx p)).1,(ae (ofTx p)).1,1) else none:=rfl
theorem AJ (p q:List UInt8) (lo hi:Int):qi [p,q] lo hi=if (ae (ofTx p)).2=true∧(ae (ofTx q)).2=true∧lo≤(ae (ofTx p)).1∧(ae (ofTx p)).1≤(ae (ofTx q)).1∧(ae (ofTx q)).1≤hi then some ((ae (ofTx p)).1,(ae (ofTx q)).1,1) else none:=rfl
theorem AK (p q r:List UInt8) (l:List (List UInt8)) (lo hi:Int):qi (p::q::r::l) lo hi=none:=rfl
noncomputable def qY (s:ByteArray) (lo hi:Int):Option (Int×Int×Int) :=
 if tx s=[42] then some (lo,hi,1)
 else if [42,47].isPrefixOf (tx s)=true then
  (if (ae (ofTx ((tx s).drop 2))).2=true∧1≤(ae (ofTx ((tx s).drop 2))).1 then some (lo,hi,(ae (ofTx ((tx s).drop 2))).1) else none)
 else qi (bC 45 (tx s)) lo hi
noncomputable def cA (s:ByteArray) (lo hi:Int):Int×Int×Int×Bool:=(jr s lo hi).getD (0,0,0,false)
noncomputable def cz (s:ByteArray) (lo hi:Int):Int×Int×Int×Bool:=(kn s lo hi).getD (0,0,0,false)
theorem AM {o:Option (Int×Int×Int×Bool)} {p:Option (Int×Int×Int)} {d:Int×Int×Int×Bool} (h:∃ r,o=some r∧rS r p):o=some (o.getD d)∧rS (o.getD d) p:=by
 obtain ⟨r,rfl,h⟩:=h
 exact ⟨rfl,h⟩
theorem Fv (L:List ByteArray) (ps:List (List UInt8)) (hL:L=ps.map ofTx) (lo hi:Int) (hne:∃ x xs,ps=x::xs) :
  ∃ r,((aN L (0:Int)).bind fun g0=>cond ((ae g0).2)
     (cond ((L.length:Int)==(2:Int))
      ((aN L (1:Int)).bind fun g1=>cond ((ae g1).2)
       (cond (decide ((L.length:Int)≤(2:Int)))
        (cond (decide (lo≤((ae g0).1)))
         (cond (decide (((ae g0).1)≤((ae g1).1)))
          (some ((ae g0).1,(ae g1).1,(1:Int),decide (((ae g1).1)≤hi)))
          (some ((ae g0).1,(ae g1).1,(1:Int),false)))
         (some ((ae g0).1,(ae g1).1,(1:Int),false)))
        (some ((ae g0).1,(ae g1).1,(1:Int),false)))
       (some ((ae g0).1,(ae g1).1,(1:Int),false)))
      (cond (decide ((L.length:Int)≤(2:Int)))
       (cond (decide (lo≤((ae g0).1)))
        (cond (decide (((ae g0).1)≤((ae g0).1)))
         (some ((ae g0).1,(ae g0).1,(1:Int),decide (((ae g0).1)≤hi)))
         (some ((ae g0).1,(ae g0).1,(1:Int),false)))
        (some ((ae g0).1,(ae g0).1,(1:Int),false)))
       (some ((ae g0).1,(ae g0).1,(1:Int),false))))
     (cond ((L.length:Int)==(2:Int))
      ((aN L (1:Int)).bind fun g1=>some ((ae g0).1,(ae g1).1,(1:Int),false))
      (some ((ae g0).1,(ae g0).1,(1:Int),false))))=some r∧rS r (qi ps lo hi):=by
 subst hL
 match ps,hne with
 | [p],_ =>
  have g0:aN ([p].map ofTx) 0=some (ofTx p):=rfl
  have e1:((([p].map ofTx).length:Int)==2)=false:=rfl
  have e2:decide ((([p].map ofTx).length:Int)≤2)=true:=rfl
  rw [g0,e1,e2,uS,Option.bind_some]
  simp only [cond_true,cond_false]
  generalize ae (ofTx p)=a
  obtain ⟨a,b⟩:=a
  cases b with
  | false=>exact ⟨_,rfl,by rw [if_neg (by simp)];exact rfl⟩
  | true =>
   rw [cond_true]
   by_cases h1:lo≤a
   ·rw [decide_eq_true h1,cond_true,decide_eq_true (Int.le_refl _),cond_true]
    refine ⟨_,rfl,?_⟩
    by_cases h2:a≤hi
    ·rw [decide_eq_true h2,if_pos ⟨rfl,h1,h2⟩];exact rfl
    ·rw [decide_eq_false h2,if_neg (fun h=>h2 h.2.2)];exact rfl
   ·rw [decide_eq_false h1]
    exact ⟨_,rfl,by rw [if_neg (fun h=>h1 h.2.1)];exact rfl⟩
 | [p,q],_ =>
  have g0:aN ([p,q].map ofTx) 0=some (ofTx p):=rfl
  have g1:aN ([p,q].map ofTx) 1=some (ofTx q):=rfl
  have e1:((([p,q].map ofTx).length:Int)==2)=true:=rfl
  have e2:decide ((([p,q].map ofTx).length:Int)≤2)=true:=rfl
  rw [g0,g1,e1,e2,AJ,Option.bind_some,Option.bind_some]
  simp only [cond_true,cond_false]
  generalize ae (ofTx p)=a
  generalize ae (ofTx q)=c
  obtain ⟨a,b⟩:=a
  obtain ⟨c,d⟩:=c
  cases b with
  | false=>exact ⟨_,rfl,by rw [if_neg (by simp)];exact rfl⟩
  | true =>
   cases d with
   | false=>exact ⟨_,rfl,by rw [if_neg (by simp)];exact rfl⟩
   | true =>
    rw [cond_true,cond_true]
    by_cases h1:lo≤a
    ·rw [decide_eq_true h1,cond_true]
     by_cases h3:a≤c
     ·rw [decide_eq_true h3,cond_true]
      refine ⟨_,rfl,?_⟩
      by_cases h2:c≤hi
      ·rw [decide_eq_true h2,if_pos ⟨rfl,rfl,h1,h3,h2⟩];exact rfl
      ·rw [decide_eq_false h2,if_neg (fun h=>h2 h.2.2.2.2)];exact rfl
     ·rw [decide_eq_false h3]
      exact ⟨_,rfl,by rw [if_neg (fun h=>h3 h.2.2.2.1)];exact rfl⟩
    ·rw [decide_eq_false h1]
     exact ⟨_,rfl,by rw [if_neg (fun h=>h1 h.2.2.1)];exact rfl⟩
 | p::q::t::ps,_ =>
  have e1:((((p::q::t::ps).map ofTx).length:Int)==2)=false:=by rw [beq_eq_false_iff_ne];simp;omega
  have e2:decide ((((p::q::t::ps).map ofTx).length:Int)≤2)=false:=decide_eq_false (by simp;omega)
  rw [e1,e2,AK]
  have g0:aN ((p::q::t::ps).map ofTx) 0=some (ofTx p):=rfl
  rw [g0,Option.bind_some]
  cases (ae (ofTx p)).2 with
  | false=>exact ⟨_,rfl,rfl⟩
  | true=>exact ⟨_,rfl,rfl⟩
theorem xR (s:ByteArray) (lo hi:Int) (hs:s.size≤2000000):jr s lo hi=some (cA s lo hi)∧rS (cA s lo hi) (qY s lo hi):=by
 refine AM ?_
 unfold jr qY
 have e42:tx (⟨#[42]⟩:ByteArray)=[42]:=rfl
 have e4247:tx (⟨#[42,47]⟩:ByteArray)=[42,47]:=rfl
 rw [nM,e42]
 by_cases h:tx s=[42]
 ·rw [decide_eq_true h,if_pos h];exact ⟨_,rfl,rfl⟩
 ·have hp:(s.size≤2000000)=True:=eq_true hs
  have hc:((0:Int)≤45∧(45:Int)<256)=True:=eq_true (by decide)
  have hL:aj s 45=(bC 45 (tx s)).map ofTx:=rfl
  have tl:=Fv (aj s 45) (bC 45 (tx s)) hL lo hi (fX _ _)
  rw [decide_eq_false h,if_neg h,cond_false]
  simp only [hp,hc,if_true]
  have hz:=cI s
  by_cases h2:2<s.size
  ·rw [decide_eq_true (by omega),cond_true,if_pos (by omega),nM,e4247,wt]
   have hpre:[42,47].isPrefixOf (tx s)=decide (seg (tx s) (0:Int).toNat (2:Int).toNat=[42,47]):=by
    obtain ⟨a,b,l,e⟩:∃ a b l,tx s=a::b::l:=by
     cases q:tx s with
     | nil=>rw [q] at hz;have:s.size=0:=hz;omega
     | cons a l =>
      cases l with
      | nil=>rw [q] at hz;have:s.size=1:=hz;omega
      | cons b l=>exact ⟨a,b,l,rfl⟩
    have:seg (a::b::l) (0:Int).toNat (2:Int).toNat=[a,b]:=by simp [seg]
    have sw:∀ x y:UInt8,(x==y)=decide (y=x):=fun x y=>by
     by_cases h:y=x
     ·subst h;simp
     ·rw [decide_eq_false h,beq_eq_false_iff_ne];exact fun e=>h e.symm
    rw [e,this]
    simp [List.isPrefixOf,sw]
   rw [hpre]
   have hx:s.extract (2:Int).toNat (s.size:Int).toNat=ofTx ((tx s).drop 2):=by
    rw [kj]
    unfold seg
    rw [List.take_of_length_le (by omega)];rfl
   by_cases q:seg (tx s) (0:Int).toNat (2:Int).toNat=[42,47]
   ·rw [decide_eq_true q,cond_true,if_pos rfl,if_pos (by omega),hx]
    generalize ae (ofTx ((tx s).drop 2))=a
    obtain ⟨a,b⟩:=a
    cases b with
    | false=>exact ⟨_,rfl,by rw [if_neg (by simp)];exact rfl⟩
    | true =>
     refine ⟨_,rfl,?_⟩
     by_cases z:1≤a
     ·rw [decide_eq_true (show a≥1 from z),if_pos ⟨rfl,z⟩];exact rfl
     ·rw [decide_eq_false (show ¬ a≥1 from z),if_neg (fun h=>z h.2)];exact rfl
   ·rw [decide_eq_false q,cond_false,if_neg (by simp)]
    exact tl
  ·rw [decide_eq_false (by omega),cond_false]
   by_cases q:[42,47].isPrefixOf (tx s)=true
   ·rw [if_pos q]
    have e:tx s=[42,47]:=by
     cases w:tx s with
     | nil=>rw [w] at q;simp [List.isPrefixOf] at q
     | cons a l =>
      cases l with
      | nil=>rw [w] at q;simp [List.isPrefixOf] at q
      | cons b l =>
       cases l with
       | nil=>rw [w] at q;simp [List.isPrefixOf] at q;rw [← q.1, ← q.2]
       | cons c l=>rw [w] at hz;simp at hz;omega
    have hb:(ae (ofTx ((tx s).drop 2)))=(0,false):=by
     rw [e]
     show ae (ofTx [])=_
     unfold ae
     rw [if_neg (by decide)]
     have:¬ tx (bd 0)=tx (ofTx []):=by
      unfold bd Lib.itoa
      rw [if_neg (by omega),Lib.decDigits,dif_pos (by simp)]
      simp [tx,ofTx]
     show (if (1000000000:Int)<0 then _ else if _ then _ else _)=_
     rw [if_neg (by decide),if_neg this]
    rw [hb,if_neg (by simp)]
    obtain ⟨r,h1,h2⟩:=tl
    refine ⟨r,h1,?_⟩
    rw [e] at h2
    have hcut:bC 45 ([42,47]:List UInt8)=[[42,47]]:=pL (by decide)
    rw [hcut,uS] at h2
    have hb2:ae (ofTx [42,47])=(0,false):=um (b:=42) (by rw [qp];simp) (by decide)
    simp only [hb2] at h2
    rw [if_neg (by simp)] at h2
    exact h2
   ·rw [if_neg q]
    exact tl
theorem xQ (s:ByteArray) (lo hi:Int) (hs:s.size≤2000000):kn s lo hi=some (cz s lo hi)∧rS (cz s lo hi) (qY s lo hi):=by
 refine AM ?_
 unfold kn qY
 have e42:tx (⟨#[42]⟩:ByteArray)=[42]:=rfl
 rw [nM,e42]
 by_cases h:tx s=[42]
 ·rw [decide_eq_true h,if_pos h];exact ⟨_,rfl,rfl⟩
 ·rw [decide_eq_false h,if_neg h,cond_false]
  have hp2:(bB s (⟨#[42,47]⟩:ByteArray)).2=[42,47].isPrefixOf (tx s):=rfl
  rw [hp2]
  by_cases q:[42,47].isPrefixOf (tx s)=true
  ·have hp1:(bB s (⟨#[42,47]⟩:ByteArray)).1=ofTx ((tx s).drop 2):=by
    show ofTx (Lib.trimPrefix (tx s) [42,47])=_
    unfold Lib.trimPrefix Lib.hasPrefix
    rw [if_pos q];rfl
   rw [q,cond_true,if_pos rfl,hp1]
   generalize ae (ofTx ((tx s).drop 2))=a
   obtain ⟨a,b⟩:=a
   cases b with
   | false=>exact ⟨_,rfl,by rw [if_neg (by simp)];exact rfl⟩
   | true =>
    refine ⟨_,rfl,?_⟩
    by_cases z:1≤a
    ·rw [decide_eq_true (show a≥1 from z),if_pos ⟨rfl,z⟩];exact rfl
    ·rw [decide_eq_false (show ¬ a≥1 from z),if_neg (fun h=>z h.2)];exact rfl
  ·rw [if_neg q]
   rw [Bool.not_eq_true] at q
   rw [q,cond_false,if_pos (by omega)]
   rcases zt (tx s) 45 with ⟨h1,h2,h3⟩ | ⟨a,b,h1,h2,h3,h4⟩
   ·have c1:aA s (⟨#[45]⟩:ByteArray)=(s,ofTx [],false):=by
     show (ofTx (Lib.cut (tx s) [45]).1,ofTx (Lib.cut (tx s) [45]).2.1,(Lib.cut (tx s) [45]).2.2)=_
     rw [h2];rfl
    rw [c1,h3,uS]
    simp only [cond_false]
    rw [qg]
    generalize ae s=a
    obtain ⟨a,b⟩:=a
    cases b with
    | false=>exact ⟨_,rfl,by rw [if_neg (by simp)];exact rfl⟩
    | true =>
     rw [cond_true]
     by_cases h1:lo≤a
     ·rw [decide_eq_true (show a≥lo from h1),cond_true,decide_eq_true (Int.le_refl _),cond_true]
      refine ⟨_,rfl,?_⟩
      by_cases h2:a≤hi
      ·rw [decide_eq_true h2,if_pos ⟨rfl,h1,h2⟩];exact rfl
      ·rw [decide_eq_false h2,if_neg (fun h=>h2 h.2.2)];exact rfl
     ·rw [decide_eq_false (show ¬ a≥lo from h1)]
      exact ⟨_,rfl,by rw [if_neg (fun h=>h1 h.2.1)];exact rfl⟩
   ·have c1:aA s (⟨#[45]⟩:ByteArray)=(ofTx a,ofTx b,true):=by
     show (ofTx (Lib.cut (tx s) [45]).1,ofTx (Lib.cut (tx s) [45]).2.1,(Lib.cut (tx s) [45]).2.2)=_
     rw [h3]
    rw [c1,h4]
    simp only [cond_true]
    by_cases hb:(45:UInt8)∈b
    ·have hr:ae (ofTx b)=(0,false):=um (b:=45) (by rw [qp];exact hb) (by decide)
     have hm:∃ x y z,bC 45 b=x::y::z:=by
      rcases zt b 45 with ⟨g,_⟩ | ⟨c,d,_,_,_,g⟩
      ·exact absurd hb g
      ·obtain ⟨y,z,e⟩:=fX 45 d
       exact ⟨c,y,z,by rw [g,e]⟩
     obtain ⟨x,y,z,e⟩:=hm
     rw [e,hr,AK]
     cases (ae (ofTx a)).2 with
     | false=>exact ⟨_,rfl,rfl⟩
     | true=>exact ⟨_,rfl,rfl⟩
    ·rw [pL hb,AJ]
     generalize ae (ofTx a)=a
     generalize ae (ofTx b)=c
     obtain ⟨a,b⟩:=a
     obtain ⟨c,d⟩:=c
     cases b with
     | false=>exact ⟨_,rfl,by rw [if_neg (by simp)];exact rfl⟩
     | true =>
      cases d with
      | false=>exact ⟨_,rfl,by rw [if_neg (by simp)];exact rfl⟩
      | true =>
       rw [cond_true,cond_true]
       by_cases h1:lo≤a
       ·rw [decide_eq_true (show a≥lo from h1),cond_true]
        by_cases h3:a≤c
        ·rw [decide_eq_true h3,cond_true]
         refine ⟨_,rfl,?_⟩
         by_cases h2:c≤hi
         ·rw [decide_eq_true h2,if_pos ⟨rfl,rfl,h1,h3,h2⟩];exact rfl
         ·rw [decide_eq_false h2,if_neg (fun h=>h2 h.2.2.2.2)];exact rfl
        ·rw [decide_eq_false h3]
         exact ⟨_,rfl,by rw [if_neg (fun h=>h3 h.2.2.2.1)];exact rfl⟩
       ·rw [decide_eq_false (show ¬ a≥lo from h1)]
        exact ⟨_,rfl,by rw [if_neg (fun h=>h1 h.2.2.1)];exact rfl⟩
theorem Gw {s:ByteArray} {lo hi a b c:Int} (hlo:lo≤hi) (h:qY s lo hi=some (a,b,c)):lo≤a∧a≤b∧b≤hi∧1≤c∧c≤1000000000:=by
 unfold qY at h
 split at h
 ·cases h;exact ⟨Int.le_refl _,hlo,Int.le_refl _,Int.le_refl _,by decide⟩
 ·split at h
  ·split at h
   ·rename_i z
    have:=D8 (ofTx ((tx s).drop 2))
    cases h
    exact ⟨Int.le_refl _,hlo,Int.le_refl _,z.2,this.2⟩
   ·cases h
  ·unfold qi at h
   split at h
   ·split at h
    ·rename_i z;cases h;exact ⟨z.2.1,Int.le_refl _,z.2.2,Int.le_refl _,by decide⟩
    ·cases h
   ·split at h
    ·rename_i z;cases h;exact ⟨z.2.2.1,z.2.2.2.1,z.2.2.2.2,Int.le_refl _,by decide⟩
    ·cases h
   ·cases h
theorem zf (x0:ByteArray) (x1:Int) (x2:Int) (h:x0.size≤2000000):Does E 87 [.one (tS x0),.one (tI x1),.one (tI x2)] [(false,[tI ((cA x0 x1 x2).1)]),(false,[tI ((cA x0 x1 x2).2.1)]),(false,[tI ((cA x0 x1 x2).2.2.1)]),(false,[tB ((cA x0 x1 x2).2.2.2)])]:=by
 exact A8 x0 x1 x2 _ (xR x0 x1 x2 h).1
theorem pE (x0:ByteArray) (x1:Int) (x2:Int) (h:x0.size≤2000000) {bb:Bool} (hbb:(cA x0 x1 x2).2.2.2=bb):Does E 87 [.one (tS x0),.one (tI x1),.one (tI x2)] [(false,[tI ((cA x0 x1 x2).1)]),(false,[tI ((cA x0 x1 x2).2.1)]),(false,[tI ((cA x0 x1 x2).2.2.1)]),(false,[tB bb])]:=by rw [← hbb];exact zf x0 x1 x2 h
theorem By (x0:ByteArray) (x1:Int) (x2:Int) (h:x0.size≤2000000):Does E 103 [.one (tS x0),.one (tI x1),.one (tI x2)] [(false,[tI ((cz x0 x1 x2).1)]),(false,[tI ((cz x0 x1 x2).2.1)]),(false,[tI ((cz x0 x1 x2).2.2.1)]),(false,[tB ((cz x0 x1 x2).2.2.2)])]:=by
 exact B4 x0 x1 x2 _ (xQ x0 x1 x2 h).1
theorem rk (x0:ByteArray) (x1:Int) (x2:Int) (h:x0.size≤2000000) {bb:Bool} (hbb:(cz x0 x1 x2).2.2.2=bb):Does E 103 [.one (tS x0),.one (tI x1),.one (tI x2)] [(false,[tI ((cz x0 x1 x2).1)]),(false,[tI ((cz x0 x1 x2).2.1)]),(false,[tI ((cz x0 x1 x2).2.2.1)]),(false,[tB bb])]:=by rw [← hbb];exact By x0 x1 x2 h
noncomputable def jF (x0:Int):Option (Int×Int) :=
  cond (x0==(0:Int))
   (some ((0:Int),(59:Int)))
   (cond (x0==(1:Int))
    (some ((0:Int),(23:Int)))
    (cond (x0==(2:Int))
     (some ((1:Int),(31:Int)))
     (cond (x0==(3:Int))
      (some ((1:Int),(12:Int)))
      (some ((0:Int),(6:Int))))))
theorem DI (x0:Int):Ans (jF x0) (fun r=>Does E 102 [.one (tI x0)] [(false,[tI r.1]),(false,[tI r.2])]):=by
 unfold jF
 apply JJ<;>intro h0
 ·exact JG (DP Tryz.f102 [.b true] (AC h0<|AN))
 ·apply JJ<;>intro h1
  ·exact JG (DP Tryz.f102 [.b false,.b true] (AC h0<|AC h1<|AN))
  ·apply JJ<;>intro h2
   ·exact JG (DP Tryz.f102 [.b false,.b false,.b true] (AC h0<|AC h1<|AC h2<|AN))
   ·apply JJ<;>intro h3
    ·exact JG (DP Tryz.f102 [.b false,.b false,.b false,.b true] (AC h0<|AC h1<|AC h2<|AC h3<|AN))
    ·exact JG (DP Tryz.f102 [.b false,.b false,.b false,.b false] (AC h0<|AC h1<|AC h2<|AC h3<|AN))
noncomputable def ax (i:Int):Int×Int:=(jF i).getD (0,0)
theorem Da (i:Int):jF i=some (ax i):=by
 refine Tot.getD ?_ _
 unfold jF
 repeat' (first | exact Tot.some _ | apply Tot.cond)
theorem Ey (i:Int):0≤(ax i).1∧(ax i).1≤(ax i).2∧(ax i).2≤59:=by
 unfold ax jF
 cases i==0<;>cases i==1<;>cases i==2<;>cases i==3<;>exact ⟨by decide,by decide,by decide⟩
theorem bM (x0:Int):Does E 102 [.one (tI x0)] [(false,[tI ((ax x0).1)]),(false,[tI ((ax x0).2)])]:=by
 exact DI x0 _ (Da x0)
inductive rI where
 | x4 (v16:List Int)
def gd (v2:Int) (v8:List Bool) (v16:List Int) (v17:Int):US:=stL 70 [(2,.one (tI v2)),(8,.one (.s .own () 1 (v8.map etB))),(16,.one (.s .own () 1 (v16.map etI))),(17,.one (tI v17))]
def lU (zv16:List Int):US:=stL 70 [(16,.one (.s .own () 1 (zv16.map etI)))]
abbrev nh:US→Exit→US→Prop:=Round E 67 (av Tryz.f67 2)
def yJ (v2:Int) (v8:List Bool) (v16:List Int) (v17:Int):rI→Prop
 | .x4 zv16=>Loops E 67 (av Tryz.f67 2) (gd v2 v8 v16 v17) (.exit 4) (lU zv16)
noncomputable def en (v2:Int) (v8:List Bool):Nat→(List Int)→Int→Option rI
 | 0,_,_=>none
 | n+1,v16,v17=>cond (decide (v17≤v2))
  ((aN v8 v17).bind fun g0=>cond (g0)
   (if (v16.length+([v17]).length)*8≤140737488355328∧v16.length+([v17]).length≤4611686018427387904 then en v2 v8 n (v16++([v17])) (inc v17) else none)
   (en v2 v8 n v16 (inc v17)))
  (some (.x4 v16))
theorem yG (v2:Int) (v8:List Bool) (n:Nat):∀ (v16:List Int) (v17:Int),Ans (en v2 v8 n v16 v17) (yJ v2 v8 v16 v17):=by
 induction n with
 | zero=>intros;exact Ans.none
 | succ n ih =>
  intro v16 v17
  unfold en
  apply JJ<;>intro h0
  ·refine JK (fun g0 h1 => ?_)
   apply JJ<;>intro h2
   ·refine JL (fun h3 => ?_)
    have r:nh (gd v2 v8 v16 v17) .normal (gd v2 v8 (v16++([v17])) (inc v17)):=RP [.b true,.row ([tB true]),.rows ((v16++([v17])).map etI)] (AC h0<|AC (p:=0≤v17∧v17<((v8.map etB).length:Int)) (kz h1)<|AC (p:=(v8.map etB)[0+v17.toNat]?=some ([tB true])) ((eY h1).trans (congrArg some (show [tB g0]=[tB true] by rw [h2])))<|AAp etI (fun _=>rfl) h3<|AN);exact (ih (v16++([v17])) (inc v17)).mono fun y hy=>by cases y<;>exact JH r hy
   ·have r:nh (gd v2 v8 v16 v17) .normal (gd v2 v8 v16 (inc v17)):=RP [.b true,.row ([tB false])] (AC h0<|AC (p:=0≤v17∧v17<((v8.map etB).length:Int)) (kz h1)<|AC (p:=(v8.map etB)[0+v17.toNat]?=some ([tB false])) ((eY h1).trans (congrArg some (show [tB g0]=[tB false] by rw [h2])))<|AN);exact (ih v16 (inc v17)).mono fun y hy=>by cases y<;>exact JH r hy
  ·exact JG (JI (show nh (gd v2 v8 v16 v17) (.exit 4) (lU v16) from RP [.b false] (AC h0<|AN)) (by intro h;cases h))
inductive rH where
 | x2 (v8:List Bool)
def kJ (v1 v2:Int) (v8:List Bool) (v9:List ByteArray) (v10 v12 v13 v15:Int):US:=stL 70 [(1,.one (tI v1)),(2,.one (tI v2)),(8,.one (.s .own () 1 (v8.map etB))),(9,.one (.s .own () 1 (v9.map etS))),(10,.one (tI v10)),(12,.one (tI v12)),(13,.one (tI v13)),(15,.one (tI v15))]
def lT (v1 v2:Int) (v9:List ByteArray) (v10:Int) (zv8:List Bool):US:=stL 70 [(1,.one (tI v1)),(2,.one (tI v2)),(8,.one (.s .own () 1 (zv8.map etB))),(9,.one (.s .own () 1 (v9.map etS))),(10,.one (tI v10))]
abbrev rE:US→Exit→US→Prop:=Round E 67 (av Tryz.f67 1)
def yI (v1 v2:Int) (v8:List Bool) (v9:List ByteArray) (v10 v12 v13 v15:Int):rH→Prop
 | .x2 zv8=>Loops E 67 (av Tryz.f67 1) (kJ v1 v2 v8 v9 v10 v12 v13 v15) (.exit 2) (lT v1 v2 v9 v10 zv8)
noncomputable def ge (v12 v13:Int):Nat→(List Bool)→Int→Option rH
 | 0,_,_=>none
 | n+1,v8,v15=>cond (decide (v15≤v12))
  ((aN v8 v15).bind fun g0=>ge v12 v13 n (v8.set v15.toNat true) (IntKind.wrap .i64 (v15+v13)))
  (some (.x2 v8))
theorem yF (v1 v2:Int) (v9:List ByteArray) (v10 v12 v13:Int) (n:Nat):∀ (v8:List Bool) (v15:Int),Ans (ge v12 v13 n v8 v15) (yI v1 v2 v8 v9 v10 v12 v13 v15):=by
 induction n with
 | zero=>intros;exact Ans.none
 | succ n ih =>
  intro v8 v15
  unfold ge
  apply JJ<;>intro h0
  ·refine JK (fun g0 h1 => ?_)
   have r:rE (kJ v1 v2 v8 v9 v10 v12 v13 v15) .normal (kJ v1 v2 (v8.set v15.toNat true) v9 v10 v12 v13 (IntKind.wrap .i64 (v15+v13))):=RP [.b true,.row (etB g0),.rows ((v8.set v15.toNat true).map etB)] (AC h0<|AG etB h1<|AC (p:=(v8.map etB).set (0+v15.toNat) (ao (etB g0) 0 [tB true])=(v8.set v15.toNat true).map etB) (eQ (by rfl))<|AN);exact (ih (v8.set v15.toNat true) (IntKind.wrap .i64 (v15+v13))).mono fun y hy=>by cases y<;>exact JH r hy
  ·exact JG (JI (show rE (kJ v1 v2 v8 v9 v10 v12 v13 v15) (.exit 2) (lT v1 v2 v9 v10 v8) from RP [.b false] (AC h0<|AN)) (by intro h;cases h))
inductive rG where
 | ret (v6:List Int) (v7:Bool)
 | x0 (v8:List Bool)
def ga (v1 v2:Int) (v8:List Bool) (v9:List ByteArray) (v10:Int):US:=stL 70 [(1,.one (tI v1)),(2,.one (tI v2)),(8,.one (.s .own () 1 (v8.map etB))),(9,.one (.s .own () 1 (v9.map etS))),(10,.one (tI v10))]
def kY (zv6:List Int) (zv7:Bool):US:=stL 70 [(6,.one (.s .own () 1 (zv6.map etI))),(7,.one (tB zv7))]
def lS (v1 v2:Int) (zv8:List Bool):US:=stL 70 [(1,.one (tI v1)),(2,.one (tI v2)),(8,.one (.s .own () 1 (zv8.map etB)))]
abbrev nf:US→Exit→US→Prop:=Round E 67 (av Tryz.f67 0)
def yH (v1 v2:Int) (v8:List Bool) (v9:List ByteArray) (v10:Int):rG→Prop
 | .ret zv6 zv7=>Loops E 67 (av Tryz.f67 0) (ga v1 v2 v8 v9 v10) .ret (kY zv6 zv7)
 | .x0 zv8=>Loops E 67 (av Tryz.f67 0) (ga v1 v2 v8 v9 v10) (.exit 0) (lS v1 v2 zv8)
noncomputable def dE (v1 v2:Int):List ByteArray→Nat→(List Bool)→Option rG
 | [],i,v8=>some (.x0 v8)
 | hd::rest,i,v8=>if hd.size≤2000000 then cond ((cA hd v1 v2).2.2.2)
  ((ge ((cA hd v1 v2).2.1) ((cA hd v1 v2).2.2.1) 9223372036854775808 v8 ((cA hd v1 v2).1)).bind fun y=>match y with
   | .x2 w0_8=>(dE v1 v2 rest (i+1) w0_8))
  (some (.ret ([]) false)) else none
theorem yE (v1 v2:Int) (v9:List ByteArray) (rest:List ByteArray):∀ (i:Nat) (v8:List Bool),(v9).drop i=rest→v9.length≤9223372036854775807→Ans (dE v1 v2 rest i v8) (yH v1 v2 v8 v9 (i:Int)):=by
 induction rest with
 | nil =>
  intro i v8 hE hl
  have hb:=bG hE
  unfold dE
  exact JG (JI (show nf (ga v1 v2 v8 v9 (i:Int)) (.exit 0) (lS v1 v2 v8) from RP [.val (.int .i64 (v9.length:Int)),.b false] (ALn v9 etS<|AC hb<|AN)) (by intro h;cases h))
 | cons hd rest ih =>
  intro i v8 hE hl
  have hb:=bm hE
  have hw:=bn hE hl
  have hE2:=aK hE
  have hg:=bo hE
  unfold dE
  refine JL (fun h2 => ?_)
  apply JJ<;>intro h3
  ·refine JK (fun y hy => ?_)
   replace hy:=yF v1 v2 v9 (i:Int) ((cA hd v1 v2).2.1) ((cA hd v1 v2).2.2.1) 9223372036854775808 v8 ((cA hd v1 v2).1) y hy
   cases y with
   | x2 w0_8 =>
    have h4:=hy
    exact (ih (i+1) w0_8 hE2 hl).mono fun y hy=>by have r:nf (ga v1 v2 v8 v9 (i:Int)) .normal (ga v1 v2 w0_8 v9 (inc (i:Int))):=RP [.val (.int .i64 (v9.length:Int)),.b true,.row (etS hd),.ret [(false,[tI ((cA hd v1 v2).1)]),(false,[tI ((cA hd v1 v2).2.1)]),(false,[tI ((cA hd v1 v2).2.2.1)]),(false,[tB true])],.lp (.exit 2) (lT v1 v2 v9 (i:Int) w0_8)] (ALn v9 etS<|AC hb<|AG etS hg<|AD (pE hd v1 v2 h2 h3)<|AL h4<|AN);rw [hw] at r;cases y<;>exact JH r hy
  ·exact JG (JI (show nf (ga v1 v2 v8 v9 (i:Int)) .ret (kY ([]) false) from RP [.val (.int .i64 (v9.length:Int)),.b true,.row (etS hd),.ret [(false,[tI ((cA hd v1 v2).1)]),(false,[tI ((cA hd v1 v2).2.1)]),(false,[tI ((cA hd v1 v2).2.2.1)]),(false,[tB false])]] (ALn v9 etS<|AC hb<|AG etS hg<|AD (pE hd v1 v2 h2 h3)<|AN)) (by intro h;cases h))
noncomputable def fS (x0:ByteArray) (x1 x2:Int):Option ((List Int)×Bool) :=
  if 0≤(inc x2)∧(inc x2)≤(inc x2)∧((1:Nat):Int)*(inc x2)≤281474976710656∧(inc x2)≤4611686018427387904 then if x0.size≤2000000 then if 0≤(44:Int)∧(44:Int)<256 then if (aj x0 (44:Int)).length≤9223372036854775807 then (dE x1 x2 (aj x0 (44:Int)) 0 (List.replicate (inc x2).toNat false)).bind fun y=>match y with
   | .ret w0_6 w0_7=>(some (w0_6,w0_7))
   | .x0 w0_8=>((en x2 w0_8 9223372036854775808 ([]) x1).bind fun y=>match y with
    | .x4 w1_16=>(some (w1_16,true))) else none else none else none else none
theorem A5 (x0:ByteArray) (x1 x2:Int):Ans (fS x0 x1 x2) (fun r=>Does E 67 [.one (tS x0),.one (tI x1),.one (tI x2)] [(false,[.s .own () 1 (r.1.map etI)]),(false,[tB r.2])]):=by
 unfold fS
 refine JL (fun h0 => ?_)
 refine JL (fun h1 => ?_)
 refine JL (fun h2 => ?_)
 refine JL (fun hl1 => ?_)
 refine JK (fun y hy => ?_)
 replace hy:=yE x1 x2 (aj x0 (44:Int)) (aj x0 (44:Int)) 0 (List.replicate (inc x2).toNat false) rfl hl1 y hy
 cases y with
 | ret w0_6 w0_7 =>
  have h3:=hy
  exact JG (DP Tryz.f67 [.rows ((List.replicate (inc x2).toNat false).map etB),.ret [(false,[.s .own () 1 ((aj x0 (44:Int)).map etS)])],.lp .ret (kY w0_6 w0_7)] (AC h0<|AC (p:=List.replicate (inc x2).toNat [tB false]=(List.replicate (inc x2).toNat false).map etB) (mR rfl)<|AD (aP x0 (44:Int) h1 h2)<|AL h3<|AN))
 | x0 w0_8 =>
  have h3:=hy
  refine JK (fun y hy => ?_)
  replace hy:=yG x2 w0_8 9223372036854775808 ([]) x1 y hy
  cases y with
  | x4 w1_16 =>
   have h4:=hy
   exact JG (DP Tryz.f67 [.rows ((List.replicate (inc x2).toNat false).map etB),.ret [(false,[.s .own () 1 ((aj x0 (44:Int)).map etS)])],.lp (.exit 0) (lS x1 x2 w0_8),.lp (.exit 4) (lU w1_16)] (AC h0<|AC (p:=List.replicate (inc x2).toNat [tB false]=(List.replicate (inc x2).toNat false).map etB) (mR rfl)<|AD (aP x0 (44:Int) h1 h2)<|AL h3<|AL h4<|AN))
inductive oQ where
 | x2 (v8:List Int)
def iZ (v6 v7:Int) (v8:List Int) (v12 v13 v15:Int) (v22:List ByteArray) (v23 v24:Int):US:=stL 56 [(6,.one (tI v6)),(7,.one (tI v7)),(8,.one (.s .own () 1 (v8.map etI))),(12,.one (tI v12)),(13,.one (tI v13)),(15,.one (tI v15)),(22,.one (.s .own () 1 (v22.map etS))),(23,.one (tI v23)),(24,.one (tI v24))]
def j7 (v6 v7:Int) (v22:List ByteArray) (v23 v24:Int) (zv8:List Int):US:=stL 56 [(6,.one (tI v6)),(7,.one (tI v7)),(8,.one (.s .own () 1 (zv8.map etI))),(22,.one (.s .own () 1 (v22.map etS))),(23,.one (tI v23)),(24,.one (tI v24))]
abbrev oO:US→Exit→US→Prop:=Round E 92 (av Tryz.f92 1)
def vJ (v6 v7:Int) (v8:List Int) (v12 v13 v15:Int) (v22:List ByteArray) (v23 v24:Int):oQ→Prop
 | .x2 zv8=>Loops E 92 (av Tryz.f92 1) (iZ v6 v7 v8 v12 v13 v15 v22 v23 v24) (.exit 2) (j7 v6 v7 v22 v23 v24 zv8)
noncomputable def e8 (v12 v13:Int):Nat→(List Int)→Int→Option oQ
 | 0,_,_=>none
 | n+1,v8,v15=>cond (decide (v15≤v12))
  (if (v8.length+([v15]).length)*8≤140737488355328∧v8.length+([v15]).length≤4611686018427387904 then e8 v12 v13 n (v8++([v15])) (IntKind.wrap .i64 (v15+v13)) else none)
  (some (.x2 v8))
theorem vH (v6 v7 v12 v13:Int) (v22:List ByteArray) (v23 v24:Int) (n:Nat):∀ (v8:List Int) (v15:Int),Ans (e8 v12 v13 n v8 v15) (vJ v6 v7 v8 v12 v13 v15 v22 v23 v24):=by
 induction n with
 | zero=>intros;exact Ans.none
 | succ n ih =>
  intro v8 v15
  unfold e8
  apply JJ<;>intro h0
  ·refine JL (fun h1 => ?_)
   have r:oO (iZ v6 v7 v8 v12 v13 v15 v22 v23 v24) .normal (iZ v6 v7 (v8++([v15])) v12 v13 (IntKind.wrap .i64 (v15+v13)) v22 v23 v24):=RP [.b true,.rows ((v8++([v15])).map etI)] (AC h0<|AAp etI (fun _=>rfl) h1<|AN);exact (ih (v8++([v15])) (IntKind.wrap .i64 (v15+v13))).mono fun y hy=>by cases y<;>exact JH r hy
  ·exact JG (JI (show oO (iZ v6 v7 v8 v12 v13 v15 v22 v23 v24) (.exit 2) (j7 v6 v7 v22 v23 v24 v8) from RP [.b false] (AC h0<|AN)) (by intro h;cases h))
inductive oP where
 | ret (v4:List Int) (v5:Bool)
 | x0 (v8:List Int)
def e7 (v6 v7:Int) (v8:List Int) (v22:List ByteArray) (v23 v24:Int):US:=stL 56 [(6,.one (tI v6)),(7,.one (tI v7)),(8,.one (.s .own () 1 (v8.map etI))),(22,.one (.s .own () 1 (v22.map etS))),(23,.one (tI v23)),(24,.one (tI v24))]
def jl (zv4:List Int) (zv5:Bool):US:=stL 56 [(4,.one (.s .own () 1 (zv4.map etI))),(5,.one (tB zv5))]
def j6 (zv8:List Int):US:=stL 56 [(8,.one (.s .own () 1 (zv8.map etI)))]
abbrev lD:US→Exit→US→Prop:=Round E 92 (av Tryz.f92 0)
def vI (v6 v7:Int) (v8:List Int) (v22:List ByteArray) (v23 v24:Int):oP→Prop
 | .ret zv4 zv5=>Loops E 92 (av Tryz.f92 0) (e7 v6 v7 v8 v22 v23 v24) .ret (jl zv4 zv5)
 | .x0 zv8=>Loops E 92 (av Tryz.f92 0) (e7 v6 v7 v8 v22 v23 v24) (.exit 0) (j6 zv8)
noncomputable def cM (v6 v7:Int):List ByteArray→Nat→(List Int)→Option oP
 | [],i,v8=>some (.x0 v8)
 | hd::rest,i,v8=>if hd.size≤2000000 then cond ((cz hd v6 v7).2.2.2)
  ((e8 ((cz hd v6 v7).2.1) ((cz hd v6 v7).2.2.1) 9223372036854775808 v8 ((cz hd v6 v7).1)).bind fun y=>match y with
   | .x2 w0_8=>(cM v6 v7 rest (i+1) w0_8))
  (some (.ret ([]) false)) else none
theorem vG (v6 v7:Int) (v22:List ByteArray) (rest:List ByteArray):∀ (i:Nat) (v8:List Int),(v22).drop i=rest→v22.length≤9223372036854775807→Ans (cM v6 v7 rest i v8) (vI v6 v7 v8 v22 (v22.length:Int) (i:Int)):=by
 induction rest with
 | nil =>
  intro i v8 hE hl
  have hb:=bG hE
  unfold cM
  exact JG (JI (show lD (e7 v6 v7 v8 v22 (v22.length:Int) (i:Int)) (.exit 0) (j6 v8) from RP [.b false] (AC hb<|AN)) (by intro h;cases h))
 | cons hd rest ih =>
  intro i v8 hE hl
  have hb:=bm hE
  have hw:=bn hE hl
  have hE2:=aK hE
  have hg:=bo hE
  unfold cM
  refine JL (fun h2 => ?_)
  apply JJ<;>intro h3
  ·refine JK (fun y hy => ?_)
   replace hy:=vH v6 v7 ((cz hd v6 v7).2.1) ((cz hd v6 v7).2.2.1) v22 (v22.length:Int) (i:Int) 9223372036854775808 v8 ((cz hd v6 v7).1) y hy
   cases y with
   | x2 w0_8 =>
    have h4:=hy
    exact (ih (i+1) w0_8 hE2 hl).mono fun y hy=>by have r:lD (e7 v6 v7 v8 v22 (v22.length:Int) (i:Int)) .normal (e7 v6 v7 w0_8 v22 (v22.length:Int) (inc (i:Int))):=RP [.b true,.row (etS hd),.ret [(false,[tI ((cz hd v6 v7).1)]),(false,[tI ((cz hd v6 v7).2.1)]),(false,[tI ((cz hd v6 v7).2.2.1)]),(false,[tB true])],.lp (.exit 2) (j7 v6 v7 v22 (v22.length:Int) (i:Int) w0_8)] (AC hb<|AG etS hg<|AD (rk hd v6 v7 h2 h3)<|AL h4<|AN);rw [hw] at r;cases y<;>exact JH r hy
  ·exact JG (JI (show lD (e7 v6 v7 v8 v22 (v22.length:Int) (i:Int)) .ret (jl ([]) false) from RP [.b true,.row (etS hd),.ret [(false,[tI ((cz hd v6 v7).1)]),(false,[tI ((cz hd v6 v7).2.1)]),(false,[tI ((cz hd v6 v7).2.2.1)]),(false,[tB false])]] (AC hb<|AG etS hg<|AD (rk hd v6 v7 h2 h3)<|AN)) (by intro h;cases h))
noncomputable def fE (x0:ByteArray) (x1:Int):Option ((List Int)×Bool) :=
  if x0.size<4294967281 then if 1≤(⟨#[44]⟩:ByteArray).size then if (df x0 (⟨#[44]⟩:ByteArray)).length≤9223372036854775807 then (cM ((ax x1).1) ((ax x1).2) (df x0 (⟨#[44]⟩:ByteArray)) 0 ([])).bind fun y=>match y with
   | .ret w0_4 w0_5=>(some (w0_4,w0_5))
   | .x0 w0_8=>(if w0_8.length<4611686018427387904 then if (gy w0_8).length≤9223372036854775807 then some (id (gB (gy w0_8)),true) else none else none) else none else none else none
theorem wR (x0:ByteArray) (x1:Int):Ans (fE x0 x1) (fun r=>Does E 92 [.one (tS x0),.one (tI x1)] [(false,[.s .own () 1 (r.1.map etI)]),(false,[tB r.2])]):=by
 unfold fE
 refine JL (fun h0 => ?_)
 refine JL (fun h1 => ?_)
 refine JL (fun hl1 => ?_)
 refine JK (fun y hy => ?_)
 replace hy:=vG ((ax x1).1) ((ax x1).2) (df x0 (⟨#[44]⟩:ByteArray)) (df x0 (⟨#[44]⟩:ByteArray)) 0 ([]) rfl hl1 y hy
 cases y with
 | ret w0_4 w0_5 =>
  have h2:=hy
  exact JG (DP Tryz.f92 [.ret [(false,[tI ((ax x1).1)]),(false,[tI ((ax x1).2)])],.ret [(false,[.s .own () 1 ((df x0 (⟨#[44]⟩:ByteArray)).map etS)])],.val (.int .i64 ((df x0 (⟨#[44]⟩:ByteArray)).length:Int)),.lp .ret (jl w0_4 w0_5)] (AD (bM x1)<|AD (iV x0 (⟨#[44]⟩:ByteArray) h0 h1)<|ALn (df x0 (⟨#[44]⟩:ByteArray)) etS<|AL h2<|AN))
 | x0 w0_8 =>
  have h2:=hy
  refine JL (fun h3 => ?_)
  refine JL (fun h4 => ?_)
  exact JG (DP Tryz.f92 [.ret [(false,[tI ((ax x1).1)]),(false,[tI ((ax x1).2)])],.ret [(false,[.s .own () 1 ((df x0 (⟨#[44]⟩:ByteArray)).map etS)])],.val (.int .i64 ((df x0 (⟨#[44]⟩:ByteArray)).length:Int)),.lp (.exit 0) (j6 w0_8),.ret [(false,[.s .own () 1 ((gy w0_8).map etI)])],.ret [(false,[.any]),(false,[.s .own () 1 ((gB (gy w0_8)).map etI)])],.ret [(false,[.any]),(false,[.s .own () 1 ((id (gB (gy w0_8))).map etI)])]] (AD (bM x1)<|AD (iV x0 (⟨#[44]⟩:ByteArray) h0 h1)<|ALn (df x0 (⟨#[44]⟩:ByteArray)) etS<|AL h2<|AC (p:=(w0_8.map etI).length=(w0_8.map etI).length) rfl<|AV (ψ:=fun k=>E.C k 98 [.one (.s .own () 1 (w0_8.map etI))]=some [(false,[.s .own () 1 ((gy w0_8).map etI)])]) (tK w0_8 h3)<|AV (ψ:=fun k=>E.C k 105 [.one (.s .own () 1 ((gy w0_8).map etI))]=some [(false,[.any]),(false,[.s .own () 1 ((gB (gy w0_8)).map etI)])]) (qv (gy w0_8) h4)<|AV (ψ:=fun k=>E.C k 104 [.one (.s .own () 1 ((gB (gy w0_8)).map etI))]=some [(false,[.any]),(false,[.s .own () 1 ((id (gB (gy w0_8))).map etI)])]) (tJ (gB (gy w0_8)))<|AN))
def Marks (lo hi:Int) (has:List Bool) (l:List Int):Prop :=
 (has.length:Int)=hi+1∧(∀ x∈l,lo≤x∧x≤hi)∧∀ j:Nat,(j:Int)≤hi→(has[j]?=some true↔(j:Int)∈l)
theorem Marks.add {lo hi:Int} {has:List Bool} {l:List Int} (h:Marks lo hi has l) (h0:0≤lo) {x:Int} (hx:lo≤x∧x≤hi):Marks lo hi (has.set x.toNat true) (l++[x]):=by
 obtain ⟨h1,h2,h3⟩:=h
 refine ⟨by rw [List.length_set];exact h1,fun y hy => ?_,fun j hj => ?_⟩
 ·rcases List.mem_append.1 hy with hy | hy
  ·exact h2 y hy
  ·rw [List.mem_singleton] at hy;subst hy;exact hx
 ·rw [List.mem_append,List.mem_singleton,List.getElem?_set]
  by_cases e:x.toNat=j
  ·rw [if_pos e,if_pos (by omega)]
   exact ⟨fun _ => .inr (by omega),fun _=>rfl⟩
  ·rw [if_neg e,h3 j hj]
   exact ⟨.inl,fun h=>h.resolve_right (by omega)⟩
theorem AY (lo hi b st:Int) (h0:0≤lo) (hhi:hi≤59) (hb:b≤hi) (h1:1≤st) (h2:st≤1000000000):∀ (k n:Nat) (a:Int) (has:List Bool) (l:List Int),(b-a+1).toNat≤k→k<n→lo≤a→a≤1000000100→Marks lo hi has l→l.length+k≤1000000000 →
  ∃ has' l',ge b st n has a=some (.x2 has')∧e8 b st n l a=some (.x2 l')∧Marks lo hi has' l'∧l'.length≤l.length+k∧(a≤b∨l≠[]→l'≠[])
 | k,0,a,has,l,_,hn,_,_,_,_=>by omega
 | k,n+1,a,has,l,hk,hn,ha,ha',hM,hl=>by
  unfold ge e8
  by_cases q:a≤b
  ·obtain ⟨g,hg,_⟩:=wN (l:=has) (k:=a) (by have:=hM.1;omega)
   obtain ⟨k,rfl⟩:∃ j,k=j+1:=⟨k-1,by omega⟩
   have e:IntKind.wrap .i64 (a+st)=a+st:=de _ (by omega) (by omega)
   obtain ⟨has',l',e1,e2,e3,e4,e5⟩:=AY lo hi b st h0 hhi hb h1 h2 k n (a+st) (has.set a.toNat true) (l++[a]) (by omega) (by omega) (by omega) (by omega) (hM.add h0 (by omega)) (by simp;omega)
   refine ⟨has',l',?_,?_,e3,by simp at e4;omega,fun _=>e5 (.inr (by simp))⟩
   ·rw [decide_eq_true q,cond_true,hg,Option.bind_some,e];exact e1
   ·rw [decide_eq_true q,cond_true,if_pos (by simp;omega),e];exact e2
  ·rw [decide_eq_false q]
   exact ⟨has,l,rfl,rfl,hM,by omega,fun h=>h.resolve_left q⟩
theorem t7 (lo hi:Int) (h0:0≤lo) (hlh:lo≤hi) (hhi:hi≤59):∀ (ps:List ByteArray) (i:Nat) (has:List Bool) (l:List Int),(∀ p∈ps,p.size≤2000000)→Marks lo hi has l→l.length+ps.length*60≤1000000000 →
  (dE lo hi ps i has=some (.ret [] false)∧cM lo hi ps i l=some (.ret [] false)) ∨
  ∃ has' l',dE lo hi ps i has=some (.x0 has')∧cM lo hi ps i l=some (.x0 l')∧Marks lo hi has' l'∧l'.length≤l.length+ps.length*60∧(ps≠[]∨l≠[]→l'≠[])
 | [],i,has,l,_,hM,_ => .inr ⟨has,l,rfl,rfl,hM,by simp,fun h=>h.resolve_left fun h=>h rfl⟩
 | p::ps,i,has,l,hp,hM,hl=>by
  have hq:=hp p (by simp)
  obtain ⟨-,r1⟩:=xR p lo hi hq
  obtain ⟨-,r2⟩:=xQ p lo hi hq
  unfold dE cM
  simp only [if_pos hq]
  cases e:qY p lo hi with
  | none =>
   rw [e] at r1 r2
   have r1:(cA p lo hi).2.2.2=false:=r1
   have r2:(cz p lo hi).2.2.2=false:=r2
   rw [r1,r2]
   exact .inl ⟨rfl,rfl⟩
  | some x =>
   obtain ⟨a,b,st⟩:=x
   rw [e] at r1 r2
   have r1:cA p lo hi=(a,b,st,true):=r1
   have r2:cz p lo hi=(a,b,st,true):=r2
   obtain ⟨a1,a2,a3,a4,a5⟩:=Gw hlh e
   simp only [List.length_cons] at hl
   obtain ⟨has',l',e1,e2,e3,e4,e5⟩:=AY lo hi b st h0 hhi a3 a4 a5 60 9223372036854775808 a has l (by omega) (by omega) a1 (by omega) hM (by omega)
   rw [r1,r2]
   simp only [cond_true,e1,e2,Option.bind_some]
   rcases t7 lo hi h0 hlh hhi ps (i+1) has' l' (fun p hp'=>hp p (by simp [hp'])) e3 (by omega) with h | ⟨has2,l2,g1,g2,g3,g4,g5⟩
   ·exact .inl h
   ·exact .inr ⟨has2,l2,g1,g2,g3,by rw [List.length_cons];omega,fun _=>g5 (.inr (e5 (.inl a2)))⟩
theorem D6 (hi:Int) (has:List Bool) (hh:(has.length:Int)=hi+1) (hhi:hi≤59):∀ (k n:Nat) (x:Int) (v:List Int),(hi-x+1).toNat≤k→k<n→0≤x→x≤100→v.length+k≤1000→v.Pairwise (· < ·)→(∀ y∈v,y<x) →
  ∃ w,en hi has n v x=some (.x4 w)∧w.Pairwise (· < ·)∧∀ y,y∈w↔y∈v∨(x≤y∧y≤hi∧has[y.toNat]?=some true)
 | k,0,x,v,_,hn,_,_,_,_,_=>by omega
 | k,n+1,x,v,hk,hn,hx,hx',hl,hp,hm=>by
  unfold en
  by_cases q:x≤hi
  ·obtain ⟨g,hg,_⟩:=wN (l:=has) (k:=x) (by omega)
   have hg':=(oL hg).2
   obtain ⟨k,rfl⟩:∃ j,k=j+1:=⟨k-1,by omega⟩
   have e:inc x=x+1:=fg _ (by omega) (by omega)
   rw [decide_eq_true q,cond_true,hg,Option.bind_some]
   cases g with
   | true =>
    obtain ⟨w,w1,w2,w3⟩:=D6 hi has hh hhi k n (x+1) (v++[x]) (by omega) (by omega) (by omega) (by omega) (by simp;omega)
     (by rw [List.pairwise_append];exact ⟨hp,by simp,fun a ha b hb=>by rw [List.mem_singleton] at hb;subst hb;exact hm a ha⟩)
     (fun y hy=>by rcases List.mem_append.1 hy with h | h;have:=hm y h;omega;rw [List.mem_singleton] at h;omega)
    refine ⟨w,by rw [cond_true,if_pos (by simp;omega),e];exact w1,w2,fun y => ?_⟩
    rw [w3,List.mem_append,List.mem_singleton]
    constructor
    ·rintro ((h | rfl) | h)
     ·exact .inl h
     ·exact .inr ⟨Int.le_refl _,q,hg'⟩
     ·exact .inr ⟨by omega,h.2⟩
    ·rintro (h | h)
     ·exact .inl (.inl h)
     ·by_cases z:y=x
      ·exact .inl (.inr z)
      ·exact .inr ⟨by omega,h.2⟩
   | false =>
    obtain ⟨w,w1,w2,w3⟩:=D6 hi has hh hhi k n (x+1) v (by omega) (by omega) (by omega) (by omega) (by omega) hp (fun y hy=>by have:=hm y hy;omega)
    refine ⟨w,by rw [cond_false,e];exact w1,w2,fun y => ?_⟩
    rw [w3]
    constructor
    ·rintro (h | h)
     ·exact .inl h
     ·exact .inr ⟨by omega,h.2⟩
    ·rintro (h | h)
     ·exact .inl h
     ·by_cases z:y=x
      ·subst z;rw [hg'] at h;exact absurd h.2.2 (by simp)
      ·exact .inr ⟨by omega,h.2⟩
  ·rw [decide_eq_false q]
   exact ⟨v,rfl,hp,fun y=>⟨.inl,fun h=>h.resolve_right fun h=>by omega⟩⟩
theorem uT (lo hi:Int):∀ (l:List Int) (a:Int),l.Pairwise (· < ·)→(∀ x∈l,a≤x∧x≤hi)→a≤hi+1→(l.length:Int)≤hi+1-a
 | [],a,_,_,h=>by simp;omega
 | x::l,a,hp,hm,h=>by
  rw [List.pairwise_cons] at hp
  have:=hm x (by simp)
  have:=uT lo hi l (x+1) hp.2 (fun y hy=>⟨by have:=hp.1 y hy;omega,(hm y (by simp [hy])).2⟩) (by omega)
  simp;omega
noncomputable def ag (s:ByteArray) (lo hi:Int):List Int×Bool:=(fS s lo hi).getD ([],false)
noncomputable def aF (s:ByteArray) (i:Int):List Int×Bool:=ag s (ax i).1 (ax i).2
def Eq (lo hi:Int) (r:List Int×Bool):Prop:=(r.2=false∧r.1=[])∨(r.2=true∧r.1.Pairwise (· < ·)∧r.1≠[]∧(∀ x∈r.1,lo≤x∧x≤hi)∧r.1.length≤60)
theorem uD (s:ByteArray) (lo hi:Int) (hs:s.size≤2000000) (hb:0≤lo∧lo≤hi∧hi≤59):fS s lo hi=some (ag s lo hi)∧Eq lo hi (ag s lo hi)∧∀ i,ax i=(lo,hi)→fE s i=some (ag s lo hi):=by
 obtain ⟨h0,hlh,hhi⟩:=hb
 have hinc:inc hi=hi+1:=fg _ (by omega) (by omega)
 have hl:=uA 44 (tx s)
 rw [← cI] at hl
 have hL:aj s 44=(bC 44 (tx s)).map ofTx:=rfl
 have hlen:(aj s 44).length≤2000001:=by rw [hL,List.length_map];omega
 have hpz:∀ p∈aj s 44,p.size≤2000000:=fun p hp=>by
  rw [hL] at hp
  obtain ⟨x,hx,rfl⟩:=List.mem_map.1 hp
  have:=uB _ _ x hx
  rw [mQ]
  rw [← cI] at this
  omega
 have hM:Marks lo hi (List.replicate (inc hi).toNat false) []:=by
  refine ⟨by rw [List.length_replicate,hinc];omega,fun x hx=>(by cases hx),fun j hj => ?_⟩
  rw [List.getElem?_replicate,if_pos (by omega)]
  simp
 have hne:aj s 44≠[]:=by
  obtain ⟨x,xs,e⟩:=fX 44 (tx s)
  rw [hL,e];simp
 have hc:((0:Int)≤44∧(44:Int)<256)=True:=eq_true (by decide)
 have pre:(s.size≤2000000)=True:=eq_true hs
 have iF:∀ i,ax i=(lo,hi)→∀ r,(cM lo hi (aj s 44) 0 []).bind (fun y=>match y with
   | .ret w0_4 w0_5=>(some (w0_4,w0_5))
   | .x0 w0_8=>(if w0_8.length<4611686018427387904 then if (gy w0_8).length≤9223372036854775807 then some (id (gB (gy w0_8)),true) else none else none))=some r→fE s i=some r:=fun i hi r hr=>by
  unfold fE
  rw [if_pos (by omega),if_pos (by decide),wj, ← hL,if_pos (by omega),hi]
  exact hr
 have sF:fS s lo hi=(dE lo hi (aj s 44) 0 (List.replicate (inc hi).toNat false)).bind fun y=>match y with
   | .ret w0_6 w0_7=>(some (w0_6,w0_7))
   | .x0 w0_8=>((en hi w0_8 9223372036854775808 ([]) lo).bind fun y=>match y with
    | .x4 w1_16=>(some (w1_16,true))):=by
  unfold fS
  simp only [hc,pre,if_true]
  rw [if_pos (by omega),if_pos (by omega)]
 rcases t7 lo hi h0 hlh hhi (aj s 44) 0 _ [] hpz hM (by simp;omega) with ⟨h1,h2⟩ | ⟨has,l,h1,h2,h3,h4,h5⟩
 ·rw [h1] at sF
  have sF':fS s lo hi=some ([],false):=sF
  have e:ag s lo hi=([],false):=by unfold ag;rw [sF'];rfl
  rw [e]
  exact ⟨sF',.inl ⟨rfl,rfl⟩,fun i hi=>iF i hi _ (by rw [h2];rfl)⟩
 ·obtain ⟨w,w1,w2,w3⟩:=D6 hi has h3.1 hhi 60 9223372036854775808 lo [] (by omega) (by omega) h0 (by omega) (by simp) (by simp) (fun y hy=>by cases hy)
  have hw:∀ y,y∈w↔y∈l:=fun y=>by
   rw [w3]
   constructor
   ·rintro (h | ⟨a1,a2,a3⟩)
    ·cases h
    ·have:=(h3.2.2 y.toNat (by omega)).1 a3
     rwa [show ((y.toNat:Nat):Int)=y by omega] at this
   ·intro h
    have b:=h3.2.1 y h
    refine .inr ⟨b.1,b.2,(h3.2.2 y.toNat (by omega)).2 ?_⟩
    rwa [show ((y.toNat:Nat):Int)=y by omega]
  obtain ⟨c1,c2⟩:=Bh l
  have e3:gB (gy l)=w:=x5 c1 w2 fun y=>(c2 y).trans (hw y).symm
  rw [h1,Option.bind_some] at sF
  simp only [w1,Option.bind_some] at sF
  have e:ag s lo hi=(w,true):=by unfold ag;rw [sF];rfl
  rw [e]
  have wm:∀ x∈w,lo≤x∧x≤hi:=fun x hx=>h3.2.1 x ((hw x).1 hx)
  have wl:=uT lo hi w lo w2 wm (by omega)
  refine ⟨sF,.inr ⟨rfl,w2,fun z => ?_,wm,by show w.length≤60;omega⟩,fun i hi=>iF i hi _ ?_⟩
  ·have hln:=h5 (.inl hne)
   cases q:l with
   | nil=>exact hln q
   | cons x t=>have:=(hw x).2 (by rw [q];simp);rw [show w=[] from z] at this;cases this
  ·rw [h2,Option.bind_some]
   simp only
   have sl:(gy l).length=l.length:=List.length_mergeSort l
   rw [sl,if_pos (by simp at h4;omega),if_pos (by simp at h4;omega),e3]
   rfl
theorem yA (s:ByteArray) (i:Int) (hs:s.size≤2000000):fE s i=some (aF s i):=(uD s _ _ hs (Ey i)).2.2 i rfl
theorem dv (x0:ByteArray) (x1:Int) (x2:Int) (h:x0.size≤2000000) (hb:0≤x1∧x1≤x2∧x2≤59):Does E 67 [.one (tS x0),.one (tI x1),.one (tI x2)] [(false,[.s .own () 1 (((ag x0 x1 x2).1).map etI)]),(false,[tB ((ag x0 x1 x2).2)])]:=by
 exact A5 x0 x1 x2 _ (uD x0 x1 x2 h hb).1
theorem wy (x0:ByteArray) (x1:Int) (h:x0.size≤2000000):Does E 92 [.one (tS x0),.one (tI x1)] [(false,[.s .own () 1 (((aF x0 x1).1).map etI)]),(false,[tB ((aF x0 x1).2)])]:=by
 exact wR x0 x1 _ (yA x0 x1 h)
theorem bX (x0:ByteArray) (x1:Int) (h:x0.size≤2000000) {bb:Bool} (hbb:(aF x0 x1).2=bb):Does E 92 [.one (tS x0),.one (tI x1)] [(false,[.s .own () 1 (((aF x0 x1).1).map etI)]),(false,[tB bb])]:=by rw [← hbb];exact wy x0 x1 h
end Go.Proofs.YtgaiiephdjllkaaGreatDoor.Am
