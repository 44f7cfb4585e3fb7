/- Numbers in words. -/
import Derived.Test.YtjfbofdmjihglaaGreatDoorEnv
import Derived.Test.YtjfbofdmjihglaaGreatDoorShelf
namespace Go.Proofs.YtjfbofdmjihglaaGreatDoor.Am
open Go Go.Proofs Classical
set_option maxRecDepth 100000
set_option linter.unusedVariables false
set_option linter.unusedSimpArgs false
structure GCron where
 f0:List Int
 f1:List Int
 f2:List Int
 f3:List Int
 f4:List Int
def GCron.t (k:Kd) (x:GCron):List (T Unit):=[.s k () 1 (x.f0.map etI),.s k () 1 (x.f1.map etI),.s k () 1 (x.f2.map etI),.s k () 1 (x.f3.map etI),.s k () 1 (x.f4.map etI)]
instance:an GCron:=⟨fun x=>an.sm x.f0∧an.sm x.f1∧an.sm x.f2∧an.sm x.f3∧an.sm x.f4⟩
instance:Wf GCron:=⟨fun x=>Wf.wf x.f0∧Wf.wf x.f1∧Wf.wf x.f2∧Wf.wf x.f3∧Wf.wf x.f4⟩
structure GTask where
 f0:ByteArray
 f1:ByteArray
 f2:Int
 f3:Bool
 f4:List ByteArray
def GTask.t (k:Kd) (x:GTask):List (T Unit):=[tS x.f0,tS x.f1,tI x.f2,tB x.f3,.s k () 1 (x.f4.map etS)]
instance:an GTask:=⟨fun x=>an.sm x.f0∧an.sm x.f1∧an.sm x.f4⟩
instance:Wf GTask:=⟨fun x=>Wf.wf x.f0∧Wf.wf x.f1∧Wf.wf x.f4⟩
structure GDag where
 f0:ByteArray
 f1:ByteArray
 f2:Int
 f3:Int
 f4:Bool
 f5:List GTask
def GDag.t (k q:Kd) (x:GDag):List (T Unit):=[tS x.f0,tS x.f1,tI x.f2,tI x.f3,tB x.f4,.s k () 5 (x.f5.map (GTask.t q))]
instance:an GDag:=⟨fun x=>an.sm x.f0∧an.sm x.f1∧an.sm x.f5⟩
instance:Wf GDag:=⟨fun x=>Wf.wf x.f0∧Wf.wf x.f1∧Wf.wf x.f5⟩
structure LDag where
 f0:ByteArray
 f1:ByteArray
 f2:Int
 f3:Int
 f4:Bool
 f5:List GTask
def LDag.t (k q:Kd) (x:LDag):List (T Unit):=[tS x.f0,tS x.f1,tI x.f2,tI x.f3,tB x.f4,.s k () 5 (x.f5.map (GTask.t q))]
instance:an LDag:=⟨fun x=>an.sm x.f0∧an.sm x.f1∧an.sm x.f5⟩
instance:Wf LDag:=⟨fun x=>Wf.wf x.f0∧Wf.wf x.f1∧Wf.wf x.f5⟩
def cN (s sep:ByteArray):List ByteArray:=Lib.splitB sep 0 (Lib.countB s sep) s
def ax (xs:List ByteArray) (sep:ByteArray):ByteArray:=⟨(Lib.join (xs.map (·.data.toList)) sep.data.toList).toArray⟩
def af (n:Int):ByteArray:=⟨(Lib.itoa n).toArray⟩
def ay (s sep:ByteArray):ByteArray×ByteArray×Bool:=(⟨(Lib.cut s.data.toList sep.data.toList).1.toArray⟩,⟨(Lib.cut s.data.toList sep.data.toList).2.1.toArray⟩,(Lib.cut s.data.toList sep.data.toList).2.2)
def bj (s p:ByteArray):ByteArray×Bool:=(⟨(Lib.trimPrefix s.data.toList p.data.toList).toArray⟩,Lib.hasPrefix s.data.toList p.data.toList)
noncomputable def fE (l:List Int):List Int:=l.mergeSort fun x y=>decide (x≤y)
noncomputable def fI (l:List Int):List Int:=Lib.compact l
theorem hZ (x0 x1:ByteArray) (h1:x0.size<4294967281) (h2:1≤x1.size):Does E 107 [.one (tS x0),.one (tS x1)] [(false,[.s .own () 1 ((cN x0 x1).map etS)])]:=by
 refine Does.orc ⟨0,fun k _ => ?_⟩
 have o:∀ C us,E.orc C 107 us=uD us:=fun _ _=>rfl
 refine (o _ _).trans ?_
 show (if _ then _ else _)=_
 rw [if_pos ⟨h1,h2⟩]
 rfl
theorem da (x0 x1:ByteArray) (h1:x0.size<4294967281):Does E 128 [.one (tS x0),.one (tS x1)] [(false,[tS (ay x0 x1).1]),(false,[tS (ay x0 x1).2.1]),(false,[tB (ay x0 x1).2.2])]:=by
 refine Does.orc ⟨0,fun k _ => ?_⟩
 have o:∀ C us,E.orc C 128 us=Bu us:=fun _ _=>rfl
 refine (o _ _).trans ?_
 show (if _ then _ else _)=_
 rw [if_pos h1]
 rfl
theorem bf (x0 x1:ByteArray)  : Does E 126 [.one (tS x0),.one (tS x1)] [(false,[tS (bj x0 x1).1]),(false,[tB (bj x0 x1).2])]:=by
 refine Does.orc ⟨0,fun k _ => ?_⟩
 have o:∀ C us,E.orc C 126 us=my us:=fun _ _=>rfl
 refine (o _ _).trans ?_
 rfl
theorem uP (x0:Int) (h : -9223372036854775808≤x0∧x0≤9223372036854775807):Does E 60 [.one (tI x0)] [(false,[tS (af x0)])]:=by
 refine Does.orc ⟨0,fun k _ => ?_⟩
 have o:∀ C us,E.orc C 60 us=xd us:=fun _ _=>rfl
 refine (o _ _).trans ?_
 show (if _ then _ else _)=_
 rw [if_pos h]
 rfl
theorem dn (x0:List ByteArray) (x1:ByteArray) (h:x0.length≤140737488355328∧(ax x0 x1).size≤140737488355328):Does E 61 [.one (.s .far () 1 (x0.map etS)),.one (tS x1)] [(false,[tS (ax x0 x1)])]:=by
 refine Does.orc ⟨0,fun k _ => ?_⟩
 have o:∀ C us,E.orc C 61 us=xe us:=fun _ _=>rfl
 refine (o _ _).trans ?_
 show (nq _).bind _=_
 rw [uG,Option.bind_some,if_pos ⟨h.1,h.2⟩]
 rfl
theorem rY (x0:List Int) (h:x0.length<4611686018427387904):Does E 53 [.one (.s .own () 1 (x0.map etI))] [(false,[.s .own () 1 ((fE x0).map etI)])]:=by
 refine Does.orc ⟨0,fun k _ => ?_⟩
 have o:∀ C us,E.orc C 53 us=xh us:=fun _ _=>rfl
 refine (o _ _).trans ?_
 show (iA _).bind _=_
 rw [mF,Option.bind_some,if_pos h]
 rfl
theorem o8 (x0:List Int) (h:x0.length≤9223372036854775807):Does E 111 [.one (.s .own () 1 (x0.map etI))] [(false,[.any]),(false,[.s .own () 1 ((fI x0).map etI)])]:=by
 refine Does.orc ⟨0,fun k _ => ?_⟩
 have o:∀ C us,E.orc C 111 us=pf us:=fun _ _=>rfl
 refine (o _ _).trans ?_
 show (iA _).bind _=_
 rw [mF,Option.bind_some,if_pos h]
 rfl
theorem rX (x0:List Int)  : Does E 110 [.one (.s .own () 1 (x0.map etI))] [(false,[.any]),(false,[.s .own () 1 ((id x0).map etI)])]:=by
 refine Does.orc ⟨0,fun k _ => ?_⟩
 have o:∀ C us,E.orc C 110 us=xa us:=fun _ _=>rfl
 refine (o _ _).trans ?_
 show (iA _).bind _=_
 rw [mF,Option.bind_some]
 rfl
end Go.Proofs.YtjfbofdmjihglaaGreatDoor.Am
namespace Go.Proofs.YtjfbofdmjihglaaGreatDoor.Am
open Go Go.Proofs Classical
set_option maxRecDepth 100000
set_option linter.unusedVariables false
set_option linter.unusedSimpArgs false
def aB (x a b:Int):Bool:=decide (x≥a)&&decide (x≤b)
theorem u5 {α:Type} {l:List α} {k:Int} (h:0≤k∧k<(l.length:Int)):∃ x,aL l k=some x∧x∈l:=by
 unfold aL
 rw [if_pos h.1,List.getElem?_eq_getElem (by omega)]
 exact ⟨_,rfl,List.getElem_mem _⟩
noncomputable def rD (x0 x1 x2:Int):Option (Bool) :=
  cond (decide (x0≥x1))
   (some (decide (x0≤x2)))
   (some (false))
theorem Dy (x0 x1 x2:Int):Ans (rD x0 x1 x2) (fun r=>Does E 39 [.one (tI x0),.one (tI x1),.one (tI x2)] [(false,[tB r])]):=by
 unfold rD
 apply Ie<;>intro h0
 ·exact Ib (DP Tryz.f39 [.b true] (AC h0<|AN))
 ·exact Ib (DP Tryz.f39 [.b false] (AC h0<|AN))
theorem bh (x0:Int) (x1:Int) (x2:Int):Does E 39 [.one (tI x0),.one (tI x1),.one (tI x2)] [(false,[tB (aB x0 x1 x2)])]:=by
 exact Dy x0 x1 x2 _ (by unfold rD aB;cases decide (x0≥x1)<;>rfl)
noncomputable def oe (x0 x1 x2:Int):Option (Bool) :=
  cond (decide (x0≥x1))
   (some (decide (x0≤x2)))
   (some (false))
theorem Ag (x0 x1 x2:Int):Ans (oe x0 x1 x2) (fun r=>Does E 46 [.one (tI x0),.one (tI x1),.one (tI x2)] [(false,[tB r])]):=by
 unfold oe
 apply Ie<;>intro h0
 ·exact Ib (DP Tryz.f46 [.b true] (AC h0<|AN))
 ·exact Ib (DP Tryz.f46 [.b false] (AC h0<|AN))
theorem cC (x0:Int) (x1:Int) (x2:Int):Does E 46 [.one (tI x0),.one (tI x1),.one (tI x2)] [(false,[tB (aB x0 x1 x2)])]:=by
 exact Ag x0 x1 x2 _ (by unfold oe aB;cases decide (x0≥x1)<;>rfl)
noncomputable def gN (x0:Int):Option (Int) :=
  cond (decide (x0<(10:Int)))
   (some (IntKind.wrap .u8 (IntKind.wrap .i64 ((48:Int)+x0))))
   (some (IntKind.wrap .u8 (IntKind.wrap .i64 ((IntKind.wrap .i64 ((97:Int)+x0))-(10:Int)))))
theorem wL (x0:Int):Ans (gN x0) (fun r=>Does E 59 [.one (tI x0)] [(false,[tY r])]):=by
 unfold gN
 apply Ie<;>intro h0
 ·exact Ib (DP Tryz.f59 [.b true] (AC h0<|AN))
 ·exact Ib (DP Tryz.f59 [.b false] (AC h0<|AN))
theorem EQ {x:Int} (h0:0≤x) (h1:x<256):IntKind.wrap .u8 x=x:=by
 simp only [IntKind.wrap,IntKind.bits,IntKind.signed]
 simp
 omega
noncomputable def cd (x:Int):Int:=(gN x).getD 0
theorem xV (d:Nat) (h:d<10):cd (d:Int)=48+(d:Int):=by
 unfold cd gN
 rw [decide_eq_true (by omega),cond_true,Option.getD_some,cW _ (by omega) (by omega),EQ (by omega) (by omega)]
theorem pV (x0:Int):Does E 59 [.one (tI x0)] [(false,[tY (cd x0)])]:=by
 exact wL x0 _ (by unfold cd gN;cases decide (x0<10)<;>rfl)
noncomputable def oc (x0:Int):Option (ByteArray) :=
  if -9223372036854775808≤x0∧x0≤9223372036854775807 then some (af x0) else none
theorem Ac (x0:Int):Ans (oc x0) (fun r=>Does E 35 [.one (tI x0)] [(false,[tS r])]):=by
 unfold oc
 refine Ig (fun h0 => ?_)
 exact Ib (DP Tryz.f35 [.ret [(false,[tS (af x0)])]] (AD (uP x0 h0)<|AN))
theorem cY (x0:Int) (h : -9223372036854775808≤x0∧x0≤9223372036854775807):Does E 35 [.one (tI x0)] [(false,[tS (af x0)])]:=by
 exact Ac x0 _ (by unfold oc;rw [if_pos h])
inductive rB where
 | x0 (v4:ByteArray)
def fY (v0:Int) (v3:Bool) (v4:ByteArray):US:=stL 30 [(0,.one (tI v0)),(3,.one (tB v3)),(4,.one (tS v4))]
def jb (v3:Bool) (zv4:ByteArray):US:=stL 30 [(3,.one (tB v3)),(4,.one (tS zv4))]
abbrev ni:US→Exit→US→Prop:=Round E 33 (au Tryz.f33 0)
def y3 (v0:Int) (v3:Bool) (v4:ByteArray):rB→Prop
 | .x0 zv4=>Loops E 33 (au Tryz.f33 0) (fY v0 v3 v4) (.exit 0) (jb v3 zv4)
noncomputable def eb  : Nat→Int→Bool→ByteArray→Option rB
 | 0,_,_,_=>none
 | n+1,v0,v3,v4=>cond (v0 != (0:Int))
  (cond (decide ((Int.tmod v0 (10:Int))<(0:Int)))
   (if (strOfNums ([cd (IntKind.wrap .i64 (0-(Int.tmod v0 (10:Int))))])).size+v4.size≤ak then eb n (IntKind.wrap .i64 (Int.tdiv v0 (10:Int))) v3 ((strOfNums ([cd (IntKind.wrap .i64 (0-(Int.tmod v0 (10:Int))))]))++v4) else none)
   (if (strOfNums ([cd (Int.tmod v0 (10:Int))])).size+v4.size≤ak then eb n (IntKind.wrap .i64 (Int.tdiv v0 (10:Int))) v3 ((strOfNums ([cd (Int.tmod v0 (10:Int))]))++v4) else none))
  (some (.x0 v4))
theorem rA  (n:Nat):∀ (v0:Int) (v3:Bool) (v4:ByteArray),Ans (eb n v0 v3 v4) (y3 v0 v3 v4):=by
 induction n with
 | zero=>intros;exact Ans.none
 | succ n ih =>
  intro v0 v3 v4
  unfold eb
  apply Ie<;>intro h0
  ·apply Ie<;>intro h1
   ·refine Ig (fun h2 => ?_)
    have r:ni (fY v0 v3 v4) .normal (fY (IntKind.wrap .i64 (Int.tdiv v0 (10:Int))) v3 ((strOfNums ([cd (IntKind.wrap .i64 (0-(Int.tmod v0 (10:Int))))]))++v4)):=RP [.b true,.no,.b true,.ret [(false,[tY (cd (IntKind.wrap .i64 (0-(Int.tmod v0 (10:Int)))))])],.val (.string (strOfNums ([cd (IntKind.wrap .i64 (0-(Int.tmod v0 (10:Int))))]))),.val (.string ((strOfNums ([cd (IntKind.wrap .i64 (0-(Int.tmod v0 (10:Int))))]))++v4))] (AC h0<|AC h1<|AD (pV (IntKind.wrap .i64 (0-(Int.tmod v0 (10:Int)))))<|AC (p:=(cM (((([cd (IntKind.wrap .i64 (0-(Int.tmod v0 (10:Int))))]).map etY).drop 0).take (([cd (IntKind.wrap .i64 (0-(Int.tmod v0 (10:Int))))]).map etY).length)).map strOfNums=some (strOfNums ([cd (IntKind.wrap .i64 (0-(Int.tmod v0 (10:Int))))]))) (by simp only [List.take_length,List.drop_zero];exact DG)<|AC (ai (tab:=E.tab) (t:=9) h2)<|AN);exact (ih (IntKind.wrap .i64 (Int.tdiv v0 (10:Int))) v3 ((strOfNums ([cd (IntKind.wrap .i64 (0-(Int.tmod v0 (10:Int))))]))++v4)).mono fun y hy=>by cases y<;>exact Ic r hy
   ·refine Ig (fun h2 => ?_)
    have r:ni (fY v0 v3 v4) .normal (fY (IntKind.wrap .i64 (Int.tdiv v0 (10:Int))) v3 ((strOfNums ([cd (Int.tmod v0 (10:Int))]))++v4)):=RP [.b true,.no,.b false,.ret [(false,[tY (cd (Int.tmod v0 (10:Int)))])],.val (.string (strOfNums ([cd (Int.tmod v0 (10:Int))]))),.val (.string ((strOfNums ([cd (Int.tmod v0 (10:Int))]))++v4))] (AC h0<|AC h1<|AD (pV (Int.tmod v0 (10:Int)))<|AC (p:=(cM (((([cd (Int.tmod v0 (10:Int))]).map etY).drop 0).take (([cd (Int.tmod v0 (10:Int))]).map etY).length)).map strOfNums=some (strOfNums ([cd (Int.tmod v0 (10:Int))]))) (by simp only [List.take_length,List.drop_zero];exact DG)<|AC (ai (tab:=E.tab) (t:=9) h2)<|AN);exact (ih (IntKind.wrap .i64 (Int.tdiv v0 (10:Int))) v3 ((strOfNums ([cd (Int.tmod v0 (10:Int))]))++v4)).mono fun y hy=>by cases y<;>exact Ic r hy
  ·exact Ib (Id (show ni (fY v0 v3 v4) (.exit 0) (jb v3 v4) from RP [.b false] (AC h0<|AN)) (by intro h;cases h))
noncomputable def lT (x0:Int):Option (ByteArray) :=
  cond (x0==(0:Int))
   (some ((⟨#[48]⟩:ByteArray)))
   (cond (decide (x0<(0:Int)))
    ((eb 9223372036854775808 x0 true ByteArray.empty).bind fun y=>match y with
     | .x0 w0_4=>(if (⟨#[45]⟩:ByteArray).size+w0_4.size≤ak then some ((⟨#[45]⟩:ByteArray)++w0_4) else none))
    ((eb 9223372036854775808 x0 false ByteArray.empty).bind fun y=>match y with
     | .x0 w0_4=>(some (w0_4))))
theorem Aw (x0:Int):Ans (lT x0) (fun r=>Does E 33 [.one (tI x0)] [(false,[tS r])]):=by
 unfold lT
 apply Ie<;>intro h0
 ·exact Ib (DP Tryz.f33 [.b true] (AC h0<|AN))
 ·apply Ie<;>intro h1
  ·refine If (fun y hy => ?_)
   replace hy:=rA 9223372036854775808 x0 true ByteArray.empty y hy
   cases y with
   | x0 w0_4 =>
    have h2:=hy
    refine Ig (fun h3 => ?_)
    exact Ib (DP Tryz.f33 [.b false,.b true,.lp (.exit 0) (jb true w0_4),.val (.string ((⟨#[45]⟩:ByteArray)++w0_4))] (AC h0<|AC h1<|AL h2<|AC (ai (tab:=E.tab) (t:=9) h3)<|AN))
  ·refine If (fun y hy => ?_)
   replace hy:=rA 9223372036854775808 x0 false ByteArray.empty y hy
   cases y with
   | x0 w0_4 =>
    have h2:=hy
    exact Ib (DP Tryz.f33 [.b false,.b false,.lp (.exit 0) (jb false w0_4)] (AC h0<|AC h1<|AL h2<|AN))
theorem ur (d:Nat) (h:d<10):strOfNums [cd (d:Int)]=ofTx [UInt8.ofNat (48+d)]:=by
 rw [xV d h]
 unfold strOfNums ofTx
 have:(48+(d:Int)).toNat=48+d:=by omega
 simp [this]
def qB (u:Nat):List UInt8:=if u=0 then [] else Lib.decDigits u
theorem CH (u:Nat) (h:0<u):qB u=qB (u/10)++[UInt8.ofNat (48+u % 10)]:=by
 unfold qB
 rw [if_neg (by omega),zM u h]
theorem DZ (u:Nat) (h:u<10 ^ 19):(qB u).length≤19:=by
 unfold qB
 split
 ·simp
 ·exact mA 18 u h
theorem vK (b:Bool):∀ (n:Nat) (v:Int) (s:List UInt8), -9223372036854775808≤v→v≤9223372036854775807→v.natAbs<10 ^ n→s.length+n≤100→∀ m,n<m→eb m v b (ofTx s)=some (.x0 (ofTx (qB v.natAbs++s)))
 | 0,v,s,_,_,h,_,m,hm=>by
  obtain ⟨m,rfl⟩:∃ k,m=k+1:=⟨m-1,by omega⟩
  have:v=0:=by simpa using h
  subst this
  rfl
 | n+1,v,s,h1,h2,h,hs,m,hm=>by
  obtain ⟨m,rfl⟩:∃ k,m=k+1:=⟨m-1,by omega⟩
  unfold eb
  by_cases z:v=0
  ·subst z;rfl
  ·have hz:(v != 0)=true:=by simpa using z
   rw [hz,cond_true]
   have hpos:0<v.natAbs:=by omega
   have hd:v.natAbs % 10<10:=Nat.mod_lt _ (by omega)
   have hq:(Int.tdiv v 10).natAbs=v.natAbs/10:=by rw [Int.natAbs_tdiv];rfl
   have hw:IntKind.wrap .i64 (Int.tdiv v 10)=Int.tdiv v 10:=cW _ (by omega) (by omega)
   have hm0:(Int.tmod v 10).natAbs=v.natAbs % 10:=by rw [Int.natAbs_tmod];rfl
   have ih:=vK b n (Int.tdiv v 10) ([UInt8.ofNat (48+v.natAbs % 10)]++s) (by omega) (by omega) (by rw [hq];rw [Nat.pow_succ] at h;omega) (by simp;omega) m (by omega)
   rw [hq, ← List.append_assoc, ← CH _ hpos] at ih
   have sz:∀ l:List UInt8,(ofTx l).size=l.length:=fun l=>br _
   by_cases c:Int.tmod v 10<0
   ·have e:IntKind.wrap .i64 (0-Int.tmod v 10)=((v.natAbs % 10:Nat):Int):=by rw [cW _ (by omega) (by omega)];omega
    rw [decide_eq_true c,cond_true,e,ur _ hd,if_pos (by rw [sz,sz];simp [ak];omega),hw,lr]
    exact ih
   ·have e:Int.tmod v 10=((v.natAbs % 10:Nat):Int):=by omega
    rw [decide_eq_false c,cond_false,e,ur _ hd,if_pos (by rw [sz,sz];simp [ak];omega),hw,lr]
    exact ih
theorem CG (x:Int) (h : -9223372036854775808≤x∧x≤9223372036854775807):lT x=some (af x):=by
 unfold lT af Lib.itoa
 by_cases z:x=0
 ·subst z
  show some _=some _
  rw [if_neg (by omega),Lib.decDigits,dif_pos (by simp)];rfl
 ·have hz:(x==0)=false:=by simpa using z
  have hb:x.natAbs<10 ^ 19:=by have:(10:Nat) ^ 19=10000000000000000000:=rfl;omega
  have hl:=fun b=>vK b 19 x [] h.1 h.2 hb (by simp) 9223372036854775808 (by omega)
  have e0:ofTx []=ByteArray.empty:=rfl
  rw [e0] at hl
  have dl:=DZ _ hb
  rw [hz,cond_false,hl,hl]
  simp only [List.append_nil,Option.bind_some]
  have sz:∀ l:List UInt8,(ofTx l).size=l.length:=fun l=>br _
  have hd:qB x.natAbs=Lib.decDigits x.natAbs:=by unfold qB;rw [if_neg (by omega)]
  by_cases c:x<0
  ·have e1:(⟨#[45]⟩:ByteArray)=ofTx [45]:=rfl
   rw [decide_eq_true c,cond_true,if_pos c,e1,if_pos (by rw [sz,sz];simp [ak];omega),lr,hd]
   rfl
  ·have e2:x.natAbs=x.toNat:=by omega
   rw [decide_eq_false c,cond_false,if_neg c,hd,e2]
   rfl
theorem cD (x0:Int) (h : -9223372036854775808≤x0∧x0≤9223372036854775807):Does E 33 [.one (tI x0)] [(false,[tS (af x0)])]:=by
 exact Aw x0 _ (CG x0 h)
inductive rC where
 | ret (v2:List ByteArray) (v3:Bool)
 | x0 (v4:List ByteArray)
def bB (v0:ByteArray) (v4:List ByteArray) (v5 v6:Int):US:=stL 62 [(0,.one (tS v0)),(4,.one (.s .own () 1 (v4.map etS))),(5,.one (tI v5)),(6,.one (tI v6))]
def ii (zv2:List ByteArray) (zv3:Bool):US:=stL 62 [(2,.one (.s .own () 1 (zv2.map etS))),(3,.one (tB zv3))]
def jc (zv4:List ByteArray):US:=stL 62 [(4,.one (.s .own () 1 (zv4.map etS)))]
abbrev ee:US→Exit→US→Prop:=Round E 76 (au Tryz.f76 0)
def y5 (v0:ByteArray) (v4:List ByteArray) (v5 v6:Int):rC→Prop
 | .ret zv2 zv3=>Loops E 76 (au Tryz.f76 0) (bB v0 v4 v5 v6) .ret (ii zv2 zv3)
 | .x0 zv4=>Loops E 76 (au Tryz.f76 0) (bB v0 v4 v5 v6) (.exit 0) (jc zv4)
noncomputable def ci (v0:ByteArray):Nat→(List ByteArray)→Int→Int→Option rC
 | 0,_,_,_=>none
 | n+1,v4,v5,v6=>cond (decide (v6≤(v0.size:Int)))
  (cond (decide (v6<(v0.size:Int)))
   (if 0≤v6∧v6<(v0.size:Int) then cond (decide ((eG v0 v6)<(32:Int)))
    (some (.ret ([]) false))
    (cond (decide ((eG v0 v6)>(126:Int)))
     (some (.ret ([]) false))
     (cond ((eG v0 v6) != (32:Int))
      (ci v0 n v4 v5 (inc v6))
      (cond (decide (v5<v6))
       (if 0≤v5∧v5≤v6∧v6≤(v0.size:Int) then if (v4.length+([v0.extract v5.toNat v6.toNat]).length)*16≤140737488355328∧v4.length+([v0.extract v5.toNat v6.toNat]).length≤4611686018427387904 then ci v0 n (v4++([v0.extract v5.toNat v6.toNat])) (inc v6) (inc v6) else none else none)
       (ci v0 n v4 (inc v6) (inc v6))))) else none)
   (cond (decide (v5<v6))
    (if 0≤v5∧v5≤v6∧v6≤(v0.size:Int) then if (v4.length+([v0.extract v5.toNat v6.toNat]).length)*16≤140737488355328∧v4.length+([v0.extract v5.toNat v6.toNat]).length≤4611686018427387904 then ci v0 n (v4++([v0.extract v5.toNat v6.toNat])) (inc v6) (inc v6) else none else none)
    (ci v0 n v4 (inc v6) (inc v6))))
  (some (.x0 v4))
theorem y4 (v0:ByteArray) (n:Nat):∀ (v4:List ByteArray) (v5 v6:Int),Ans (ci v0 n v4 v5 v6) (y5 v0 v4 v5 v6):=by
 induction n with
 | zero=>intros;exact Ans.none
 | succ n ih =>
  intro v4 v5 v6
  unfold ci
  apply Ie<;>intro h0
  ·apply Ie<;>intro h1
   ·refine Ig (fun h2 => ?_)
    apply Ie<;>intro h3
    ·exact Ib (Id (show ee (bB v0 v4 v5 v6) .ret (ii ([]) false) from RP [.b true,.b true,.b true] (AC h0<|AC h1<|AC h2<|AC h3<|AN)) (by intro h;cases h))
    ·apply Ie<;>intro h4
     ·exact Ib (Id (show ee (bB v0 v4 v5 v6) .ret (ii ([]) false) from RP [.b true,.b true,.b false,.b true] (AC h0<|AC h1<|AC h2<|AC h3<|AC h2<|AC h4<|AN)) (by intro h;cases h))
     ·apply Ie<;>intro h5
      ·have r:ee (bB v0 v4 v5 v6) .normal (bB v0 v4 v5 (inc v6)):=RP [.b true,.b true,.b false,.b false,.b true,.b true] (AC h0<|AC h1<|AC h2<|AC h3<|AC h2<|AC h4<|AC h1<|AC h2<|AC h5<|AN);exact (ih v4 v5 (inc v6)).mono fun y hy=>by cases y<;>exact Ic r hy
      ·apply Ie<;>intro h6
       ·refine Ig (fun h7 => ?_)
        refine Ig (fun h8 => ?_)
        have r:ee (bB v0 v4 v5 v6) .normal (bB v0 (v4++([v0.extract v5.toNat v6.toNat])) (inc v6) (inc v6)):=RP [.b true,.b true,.b false,.b false,.b true,.b false,.b true,.rows ((v4++([v0.extract v5.toNat v6.toNat])).map etS)] (AC h0<|AC h1<|AC h2<|AC h3<|AC h2<|AC h4<|AC h1<|AC h2<|AC h5<|AC h6<|AC h7<|AAp etS (fun _=>rfl) h8<|AN);exact (ih (v4++([v0.extract v5.toNat v6.toNat])) (inc v6) (inc v6)).mono fun y hy=>by cases y<;>exact Ic r hy
       ·have r:ee (bB v0 v4 v5 v6) .normal (bB v0 v4 (inc v6) (inc v6)):=RP [.b true,.b true,.b false,.b false,.b true,.b false,.b false] (AC h0<|AC h1<|AC h2<|AC h3<|AC h2<|AC h4<|AC h1<|AC h2<|AC h5<|AC h6<|AN);exact (ih v4 (inc v6) (inc v6)).mono fun y hy=>by cases y<;>exact Ic r hy
   ·apply Ie<;>intro h2
    ·refine Ig (fun h3 => ?_)
     refine Ig (fun h4 => ?_)
     have r:ee (bB v0 v4 v5 v6) .normal (bB v0 (v4++([v0.extract v5.toNat v6.toNat])) (inc v6) (inc v6)):=RP [.b true,.b false,.b false,.b true,.rows ((v4++([v0.extract v5.toNat v6.toNat])).map etS)] (AC h0<|AC h1<|AC h1<|AC h2<|AC h3<|AAp etS (fun _=>rfl) h4<|AN);exact (ih (v4++([v0.extract v5.toNat v6.toNat])) (inc v6) (inc v6)).mono fun y hy=>by cases y<;>exact Ic r hy
    ·have r:ee (bB v0 v4 v5 v6) .normal (bB v0 v4 (inc v6) (inc v6)):=RP [.b true,.b false,.b false,.b false] (AC h0<|AC h1<|AC h1<|AC h2<|AN);exact (ih v4 (inc v6) (inc v6)).mono fun y hy=>by cases y<;>exact Ic r hy
  ·exact Ib (Id (show ee (bB v0 v4 v5 v6) (.exit 0) (jc v4) from RP [.b false] (AC h0<|AN)) (by intro h;cases h))
noncomputable def lU (x0:ByteArray):Option ((List ByteArray)×Bool) :=
  cond (decide ((x0.size:Int)>(600:Int)))
   (some (([]:List ByteArray),false))
   ((ci x0 9223372036854775808 ([]) (0:Int) (0:Int)).bind fun y=>match y with
    | .ret w0_2 w0_3=>(some (w0_2,w0_3))
    | .x0 w0_4=>(cond (decide ((w0_4.length:Int)>(10:Int)))
     (some (([]:List ByteArray),false))
     (some (w0_4,true))))
theorem Az (x0:ByteArray):Ans (lU x0) (fun r=>Does E 76 [.one (tS x0)] [(false,[.s .own () 1 (r.1.map etS)]),(false,[tB r.2])]):=by
 unfold lU
 apply Ie<;>intro h0
 ·exact Ib (DP Tryz.f76 [.b true] (AC h0<|AN))
 ·refine If (fun y hy => ?_)
  replace hy:=y4 x0 9223372036854775808 ([]) (0:Int) (0:Int) y hy
  cases y with
  | ret w0_2 w0_3 =>
   have h1:=hy
   exact Ib (DP Tryz.f76 [.b false,.lp .ret (ii w0_2 w0_3)] (AC h0<|AL h1<|AN))
  | x0 w0_4 =>
   have h1:=hy
   apply Ie<;>intro h2
   ·exact Ib (DP Tryz.f76 [.b false,.lp (.exit 0) (jc w0_4),.val (.int .i64 (w0_4.length:Int)),.b true] (AC h0<|AL h1<|ALn w0_4 etS<|AC h2<|AN))
   ·exact Ib (DP Tryz.f76 [.b false,.lp (.exit 0) (jc w0_4),.val (.int .i64 (w0_4.length:Int)),.b false] (AC h0<|AL h1<|ALn w0_4 etS<|AC h2<|AN))
inductive qX where
 | x2 (v5:List ByteArray)
def fT (v5 v28:List ByteArray) (v29 v30:Int):US:=stL 45 [(5,.one (.s .own () 1 (v5.map etS))),(28,.one (.s .own () 1 (v28.map etS))),(29,.one (tI v29)),(30,.one (tI v30))]
def iV (zv5:List ByteArray):US:=stL 45 [(5,.one (.s .own () 1 (zv5.map etS)))]
abbrev m7:US→Exit→US→Prop:=Round E 85 (au Tryz.f85 1)
def yf (v5 v28:List ByteArray) (v29 v30:Int):qX→Prop
 | .x2 zv5=>Loops E 85 (au Tryz.f85 1) (fT v5 v28 v29 v30) (.exit 2) (iV zv5)
noncomputable def dG  : List ByteArray→Nat→(List ByteArray)→Option qX
 | [],i,v5=>some (.x2 v5)
 | hd::rest,i,v5=>cond (!(hd.toList==ByteArray.empty.toList))
  (if (v5.length+([hd]).length)*16≤140737488355328∧v5.length+([hd]).length≤4611686018427387904 then dG rest (i+1) (v5++([hd])) else none)
  (dG rest (i+1) v5)
theorem yd (v28:List ByteArray) (rest:List ByteArray):∀ (i:Nat) (v5:List ByteArray),(v28).drop i=rest→v28.length≤9223372036854775807→Ans (dG rest i v5) (yf v5 v28 (v28.length:Int) (i:Int)):=by
 induction rest with
 | nil =>
  intro i v5 hE hl
  have hb:=bq hE
  unfold dG
  exact Ib (Id (show m7 (fT v5 v28 (v28.length:Int) (i:Int)) (.exit 2) (iV v5) from RP [.b false] (AC hb<|AN)) (by intro h;cases h))
 | cons hd rest ih =>
  intro i v5 hE hl
  have hb:=a8 hE
  have hw:=ba hE hl
  have hE2:=aG hE
  have hg:=bd hE
  unfold dG
  apply Ie<;>intro h2
  ·refine Ig (fun h3 => ?_)
   exact (ih (i+1) (v5++([hd])) hE2 hl).mono fun y hy=>by have r:m7 (fT v5 v28 (v28.length:Int) (i:Int)) .normal (fT (v5++([hd])) v28 (v28.length:Int) (inc (i:Int))):=RP [.b true,.row (etS hd),.b true,.rows ((v5++([hd])).map etS)] (AC hb<|AG etS hg<|AC h2<|AAp etS (fun _=>rfl) h3<|AN);rw [hw] at r;cases y<;>exact Ic r hy
  ·exact (ih (i+1) v5 hE2 hl).mono fun y hy=>by have r:m7 (fT v5 v28 (v28.length:Int) (i:Int)) .normal (fT v5 v28 (v28.length:Int) (inc (i:Int))):=RP [.b true,.row (etS hd),.b false] (AC hb<|AG etS hg<|AC h2<|AN);rw [hw] at r;cases y<;>exact Ic r hy
inductive qW where
 | ret (v2:List ByteArray) (v3:Bool)
 | x0 
def e8 (v0:ByteArray) (v4:Int):US:=stL 45 [(0,.one (tS v0)),(4,.one (tI v4))]
def ia (zv2:List ByteArray) (zv3:Bool):US:=stL 45 [(2,.one (.s .own () 1 (zv2.map etS))),(3,.one (tB zv3))]
def iU (v0:ByteArray):US:=stL 45 [(0,.one (tS v0))]
abbrev kE:US→Exit→US→Prop:=Round E 85 (au Tryz.f85 0)
def ye (v0:ByteArray) (v4:Int):qW→Prop
 | .ret zv2 zv3=>Loops E 85 (au Tryz.f85 0) (e8 v0 v4) .ret (ia zv2 zv3)
 | .x0=>Loops E 85 (au Tryz.f85 0) (e8 v0 v4) (.exit 0) (iU v0)
noncomputable def e9  : List Int→Nat→Option qW
 | [],i=>some (.x0)
 | hd::rest,i=>cond (decide (hd<(32:Int)))
  (some (.ret ([]) false))
  (cond (decide (hd>(126:Int)))
   (some (.ret ([]) false))
   (e9 rest (i+1)))
theorem yc (v0:ByteArray) (rest:List Int):∀ (i:Nat) ,(bu v0).drop i=rest→v0.size≤9223372036854775807→Ans (e9 rest i) (ye v0 (i:Int)):=by
 induction rest with
 | nil =>
  intro i hE hl
  have hb:=m0 hE
  unfold e9
  exact Ib (Id (show kE (e8 v0 (i:Int)) (.exit 0) (iU v0) from RP [.b false] (AC hb<|AN)) (by intro h;cases h))
 | cons hd rest ih =>
  intro i hE hl
  have hb:=l7 hE
  have hw:=l8 hE hl
  have hE2:=aG hE
  have hp:=oF hE
  obtain rfl:=oE hE
  unfold e9
  apply Ie<;>intro h2
  ·exact Ib (Id (show kE (e8 v0 (i:Int)) .ret (ia ([]) false) from RP [.b true,.b true] (AC hb<|AC hp<|AC h2<|AN)) (by intro h;cases h))
  ·apply Ie<;>intro h3
   ·exact Ib (Id (show kE (e8 v0 (i:Int)) .ret (ia ([]) false) from RP [.b true,.b false,.b true] (AC hb<|AC hp<|AC h2<|AC hp<|AC h3<|AN)) (by intro h;cases h))
   ·exact (ih (i+1) hE2 hl).mono fun y hy=>by have r:kE (e8 v0 (i:Int)) .normal (e8 v0 (inc (i:Int))):=RP [.b true,.b false,.b false] (AC hb<|AC hp<|AC h2<|AC hp<|AC h3<|AN);rw [hw] at r;cases y<;>exact Ic r hy
noncomputable def lN (x0:ByteArray):Option ((List ByteArray)×Bool) :=
  cond (decide ((x0.size:Int)>(600:Int)))
   (some (([]:List ByteArray),false))
   (if x0.size≤9223372036854775807 then (e9 (bu x0) 0).bind fun y=>match y with
    | .ret w0_2 w0_3=>(some (w0_2,w0_3))
    | .x0=>(if x0.size<4294967281 then if 1≤(⟨#[32]⟩:ByteArray).size then if (cN x0 (⟨#[32]⟩:ByteArray)).length≤9223372036854775807 then (dG (cN x0 (⟨#[32]⟩:ByteArray)) 0 ([])).bind fun y=>match y with
     | .x2 w1_5=>(cond (decide ((w1_5.length:Int)>(10:Int)))
      (some (([]:List ByteArray),false))
      (some (w1_5,true))) else none else none else none) else none)
theorem Af (x0:ByteArray):Ans (lN x0) (fun r=>Does E 85 [.one (tS x0)] [(false,[.s .own () 1 (r.1.map etS)]),(false,[tB r.2])]):=by
 unfold lN
 apply Ie<;>intro h0
 ·exact Ib (DP Tryz.f85 [.b true] (AC h0<|AN))
 ·refine Ig (fun hl2 => ?_)
  refine If (fun y hy => ?_)
  replace hy:=yc x0 (bu x0) 0 rfl hl2 y hy
  cases y with
  | ret w0_2 w0_3 =>
   have h1:=hy
   exact Ib (DP Tryz.f85 [.b false,.lp .ret (ia w0_2 w0_3)] (AC h0<|AL h1<|AN))
  | x0 =>
   have h1:=hy
   refine Ig (fun h2 => ?_)
   refine Ig (fun h3 => ?_)
   refine Ig (fun hl3 => ?_)
   refine If (fun y hy => ?_)
   replace hy:=yd (cN x0 (⟨#[32]⟩:ByteArray)) (cN x0 (⟨#[32]⟩:ByteArray)) 0 ([]) rfl hl3 y hy
   cases y with
   | x2 w1_5 =>
    have h4:=hy
    apply Ie<;>intro h5
    ·exact Ib (DP Tryz.f85 [.b false,.lp (.exit 0) (iU x0),.ret [(false,[.s .own () 1 ((cN x0 (⟨#[32]⟩:ByteArray)).map etS)])],.val (.int .i64 ((cN x0 (⟨#[32]⟩:ByteArray)).length:Int)),.lp (.exit 2) (iV w1_5),.val (.int .i64 (w1_5.length:Int)),.b true] (AC h0<|AL h1<|AD (hZ x0 (⟨#[32]⟩:ByteArray) h2 h3)<|ALn (cN x0 (⟨#[32]⟩:ByteArray)) etS<|AL h4<|ALn w1_5 etS<|AC h5<|AN))
    ·exact Ib (DP Tryz.f85 [.b false,.lp (.exit 0) (iU x0),.ret [(false,[.s .own () 1 ((cN x0 (⟨#[32]⟩:ByteArray)).map etS)])],.val (.int .i64 ((cN x0 (⟨#[32]⟩:ByteArray)).length:Int)),.lp (.exit 2) (iV w1_5),.val (.int .i64 (w1_5.length:Int)),.b false] (AC h0<|AL h1<|AD (hZ x0 (⟨#[32]⟩:ByteArray) h2 h3)<|ALn (cN x0 (⟨#[32]⟩:ByteArray)) etS<|AL h4<|ALn w1_5 etS<|AC h5<|AN))
def okB (b:UInt8):Bool:=decide (32≤b.toNat)&&decide (b.toNat≤126)
theorem Dk {b:UInt8} (h:b.toNat<32):okB b=false:=by unfold okB;rw [decide_eq_false (by omega)];rfl
theorem Di {b:UInt8} (h:126<b.toNat):okB b=false:=by unfold okB;rw [decide_eq_false (by omega:¬ b.toNat≤126),Bool.and_false]
theorem Dj {b:UInt8} (h:¬ b.toNat<32) (h2:¬ 126<b.toNat):okB b=true:=by unfold okB;rw [decide_eq_true (by omega),decide_eq_true (by omega)];rfl
def aH (x:ByteArray):Bool := !(x.toList==ByteArray.empty.toList)
noncomputable def aA (s:ByteArray):List ByteArray×Bool :=
 if 600<s.size then ([],false) else if (tx s).all okB=true then (if 10<(((bo 32 (tx s)).map ofTx).filter aH).length then ([],false) else (((bo 32 (tx s)).map ofTx).filter aH,true)) else ([],false)
theorem xX (l:List UInt8):aH (ofTx l) = !l.isEmpty:=by
 unfold aH
 rw [mR]
 have:tx ByteArray.empty=[]:=rfl
 rw [this,hU]
 cases l<;>rfl
theorem uC (s:ByteArray) (c:UInt8):cN s ⟨#[c]⟩=(bo c (tx s)).map ofTx:=AH s c
theorem mK (s:ByteArray):bu s=(tx s).map fun b=>(b.toNat:Int):=rfl
theorem xz {s:ByteArray} {i:Nat} {b:UInt8} (h:(tx s)[i]?=some b):eG s (i:Int)=(b.toNat:Int):=by
 have hi:i<s.size:=by
  rw [br]
  rcases Nat.lt_or_ge i (tx s).length with g | g
  ·exact g
  ·rw [List.getElem?_eq_none g] at h;cases h
 have:=oq s i hi
 rw [mK,List.getElem?_map,h] at this
 exact (Option.some.inj this).symm
theorem Do:∀ (l:List UInt8) (i:Nat),e9 (l.map fun b=>(b.toNat:Int)) i=some (if l.all okB=true then .x0 else .ret [] false)
 | [],i=>rfl
 | b::l,i=>by
  rw [List.map_cons]
  unfold e9
  rw [Do l (i+1),List.all_cons]
  by_cases h:b.toNat<32
  ·rw [decide_eq_true (by omega),Dk h];rfl
  ·rw [decide_eq_false (by omega),cond_false]
   by_cases h':126<b.toNat
   ·rw [decide_eq_true (by omega),Di h'];rfl
   ·rw [decide_eq_false (by omega),Dj h h'];rfl
theorem yL:∀ (l:List ByteArray) (i:Nat) (v:List ByteArray),v.length+l.length≤4000000→dG l i v=some (.x2 (v++l.filter aH))
 | [],i,v,_=>by unfold dG;simp
 | x::l,i,v,h=>by
  simp only [List.length_cons] at h
  unfold dG
  have e:(!(x.toList==ByteArray.empty.toList))=aH x:=rfl
  rw [e]
  cases q:aH x with
  | true =>
   rw [cond_true,if_pos (by simp;omega),yL l (i+1) _ (by simp;omega),List.filter_cons,q];simp
  | false =>
   rw [cond_false,yL l (i+1) v (by omega),List.filter_cons,q];simp
theorem Dp (s:ByteArray):lN s=some (aA s):=by
 unfold lN aA
 by_cases h:600<s.size
 ·rw [decide_eq_true (by omega),if_pos h];rfl
 ·have hl:=sX 32 (tx s)
  rw [← br] at hl
  rw [decide_eq_false (by omega),if_neg h,cond_false,if_pos (by omega),mK,Do]
  by_cases q:(tx s).all okB=true
  ·rw [if_pos q,if_pos q,Option.bind_some]
   simp only
   rw [if_pos (by omega),if_pos (by decide),uC,if_pos (by simp;omega),yL _ _ _ (by simp;omega),Option.bind_some]
   simp only [List.nil_append]
   by_cases r:10<(((bo 32 (tx s)).map ofTx).filter aH).length
   ·rw [decide_eq_true (by omega),if_pos r];rfl
   ·rw [decide_eq_false (by omega),if_neg r];rfl
  ·rw [if_neg q,if_neg q];rfl
theorem xY {l:List UInt8} {i:Nat} (h:i<l.length):∃ b r,l.drop i=b::r∧l[i]?=some b∧l.drop (i+1)=r:=by
 refine ⟨l[i],l.drop (i+1),List.drop_eq_getElem_cons h,List.getElem?_eq_getElem h,rfl⟩
theorem Dr (s:ByteArray) (hs:s.size≤2000000):∀ (m i a:Nat) (v:List ByteArray) (n:Nat),i+m=(tx s).length→m+1<n→a≤i→v.length+m≤2000000 →
  ci s n v (a:Int) (i:Int)=some (if ((tx s).drop i).all okB=true then .x0 (v++((ff (seg (tx s) a i) (bo 32 ((tx s).drop i))).map ofTx).filter aH) else .ret [] false)
 | m,i,a,v,n,hi,hn,ha,hv=>by
  obtain ⟨n,rfl⟩:∃ k,n=k+2:=⟨n-2,by omega⟩
  have hsz:=br s
  unfold ci
  rw [decide_eq_true (by omega:(i:Int)≤(s.size:Int)),cond_true]
  have hinc:inc (i:Int)=((i+1:Nat):Int):=by rw [m9 _ (by omega) (by omega)];omega
  cases m with
  | zero =>
   have hd:(tx s).drop i=[]:=List.drop_eq_nil_of_le (by omega)
   have stop:∀ w b,ci s (n+1) w b ((i+1:Nat):Int)=some (.x0 w):=fun w b=>by
    unfold ci
    rw [decide_eq_false (by omega)];rfl
   have hc:ff (seg (tx s) a i) (bo 32 ([]:List UInt8))=[seg (tx s) a i]:=by simp [bo,ff]
   have hf:([seg (tx s) a i].map ofTx).filter aH=if a=i then [] else [s.extract a i]:=by
    rw [List.map_cons,List.map_nil,List.filter_cons,xX,Bc ha (by omega),jt]
    by_cases q:a=i
    ·rw [if_pos q,decide_eq_true q];rfl
    ·rw [if_neg q,decide_eq_false q];rfl
   rw [decide_eq_false (by omega:¬ (i:Int)<(s.size:Int)),cond_false,hinc,hd,hc,hf,List.all_nil,if_pos rfl]
   by_cases q:a=i
   ·rw [decide_eq_false (by omega),cond_false,stop,if_pos q,List.append_nil]
   ·rw [decide_eq_true (by omega),cond_true,if_pos (by omega),if_pos (by simp;omega),stop,if_neg q];rfl
  | succ m =>
   obtain ⟨b,r,hd,hg,hr⟩:=xY (l:=tx s) (i:=i) (by omega)
   have hb:=xz hg
   have ih:=fun a' v' (h1:a'≤i+1) (h2:v'.length+m≤2000000)=>Dr s hs m (i+1) a' v' (n+1) (by omega) (by omega) h1 h2
   rw [hr] at ih
   rw [decide_eq_true (by omega:(i:Int)<(s.size:Int)),cond_true,if_pos (by omega),hb,hinc,hd,List.all_cons]
   have bl:=b.toNat_lt
   by_cases h:b.toNat<32
   ·rw [decide_eq_true (by omega:((b.toNat:Int)<32)),cond_true,Dk h];rfl
   ·rw [decide_eq_false (by omega:¬ ((b.toNat:Int)<32)),cond_false]
    by_cases h':126<b.toNat
    ·rw [decide_eq_true (by omega:((b.toNat:Int)>126)),cond_true,Di h'];rfl
    ·rw [decide_eq_false (by omega:¬ ((b.toNat:Int)>126)),cond_false,Dj h h',Bool.true_and]
     by_cases q:b=32
     ·subst q
      have e:(((32:UInt8).toNat:Int) != 32)=false:=by decide
      rw [e,cond_false,mX]
      have hgl:ff (seg (tx s) a i) ([]::bo 32 r)=seg (tx s) a i::bo 32 r:=by simp [ff]
      rw [hgl,List.map_cons,List.filter_cons,xX,Bc ha (by omega)]
      have hz:ff (seg (tx s) (i+1) (i+1)) (bo 32 r)=bo 32 r:=by rw [np];exact pp _ (fh _ _)
      by_cases q:a=i
      ·have:=ih (i+1) v (by omega) (by omega)
       rw [hz] at this
       rw [decide_eq_false (by omega),cond_false,this,decide_eq_true q];rfl
      ·have:=ih (i+1) (v++[s.extract a i]) (by omega) (by simp;omega)
       rw [hz] at this
       rw [decide_eq_true (by omega),cond_true,if_pos (by omega),if_pos (by simp;omega)]
       rw [show ((a:Int).toNat)=a by omega,show ((i:Int).toNat)=i by omega,this,decide_eq_false q,jt]
       simp
     ·have e:((b.toNat:Int) != 32)=true:=by
       rw [bne_iff_ne]
       intro h
       exact q (UInt8.toNat_inj.1 (by show b.toNat=32;omega))
      rw [e,cond_true,ih a v (by omega) (by omega),kb q,vU _ _ _ (fh _ _), ← zl ha hg]
theorem Dq (s:ByteArray):lU s=some (aA s):=by
 unfold lU aA
 by_cases h:600<s.size
 ·rw [decide_eq_true (by omega),if_pos h];rfl
 ·have hz:ff (seg (tx s) 0 0) (bo 32 (tx s))=bo 32 (tx s):=by rw [np];exact pp _ (fh _ _)
  have e:=Dr s (by omega) (tx s).length 0 0 [] 9223372036854775808 (by omega) (by rw [← br];omega) (by omega) (by rw [← br];simp;omega)
  rw [List.drop_zero,hz,List.nil_append] at e
  rw [decide_eq_false (by omega),if_neg h,cond_false]
  refine (congrArg (Option.bind · _) e).trans ?_
  by_cases q:(tx s).all okB=true
  ·rw [if_pos q,if_pos q,Option.bind_some]
   simp only
   by_cases r:10<(((bo 32 (tx s)).map ofTx).filter aH).length
   ·rw [decide_eq_true (by omega),if_pos r];rfl
   ·rw [decide_eq_false (by omega),if_neg r];rfl
  ·rw [if_neg q,if_neg q];rfl
theorem oj {s p:ByteArray} (h:p∈(aA s).1):p.size≤600:=by
 unfold aA at h
 split at h
 ·cases h
 ·rename_i h0
  split at h
  ·split at h
   ·cases h
   ·obtain ⟨x,hx,rfl⟩:=List.mem_map.1 (List.mem_filter.1 h).1
    have:=sY _ _ x hx
    rw [kk]
    rw [← br] at this
    omega
  ·cases h
theorem zH (x0:ByteArray):Does E 76 [.one (tS x0)] [(false,[.s .own () 1 (((aA x0).1).map etS)]),(false,[tB ((aA x0).2)])]:=by
 exact Az x0 _ (Dq x0)
theorem jD (x0:ByteArray) {bb:Bool} (hbb:(aA x0).2=bb):Does E 76 [.one (tS x0)] [(false,[.s .own () 1 (((aA x0).1).map etS)]),(false,[tB bb])]:=by rw [← hbb];exact zH x0
theorem zD (x0:ByteArray):Does E 85 [.one (tS x0)] [(false,[.s .own () 1 (((aA x0).1).map etS)]),(false,[tB ((aA x0).2)])]:=by
 exact Af x0 _ (Dp x0)
theorem jC (x0:ByteArray) {bb:Bool} (hbb:(aA x0).2=bb):Does E 85 [.one (tS x0)] [(false,[.s .own () 1 (((aA x0).1).map etS)]),(false,[tB bb])]:=by rw [← hbb];exact zD x0
inductive nj where
 | ret (v2:Int) (v3:Bool)
 | x0 (v4:Int)
def dk (v0:ByteArray) (v4 v5:Int):US:=stL 42 [(0,.one (tS v0)),(4,.one (tI v4)),(5,.one (tI v5))]
def fe (zv2:Int) (zv3:Bool):US:=stL 42 [(2,.one (tI zv2)),(3,.one (tB zv3))]
def ef (v0:ByteArray) (zv4:Int):US:=stL 42 [(0,.one (tS v0)),(4,.one (tI zv4))]
abbrev gC:US→Exit→US→Prop:=Round E 118 (au Tryz.f118 0)
def tr (v0:ByteArray) (v4 v5:Int):nj→Prop
 | .ret zv2 zv3=>Loops E 118 (au Tryz.f118 0) (dk v0 v4 v5) .ret (fe zv2 zv3)
 | .x0 zv4=>Loops E 118 (au Tryz.f118 0) (dk v0 v4 v5) (.exit 0) (ef v0 zv4)
noncomputable def dm (v0:ByteArray):List Int→Nat→Int→Option nj
 | [],i,v4=>some (.x0 v4)
 | hd::rest,i,v4=>cond (decide (hd<(48:Int)))
  (some (.ret (0:Int) false))
  (cond (decide (hd>(57:Int)))
   (some (.ret (0:Int) false))
   (dm v0 rest (i+1) (IntKind.wrap .i64 ((IntKind.wrap .i64 ((IntKind.wrap .i64 ((10:Int)*v4))+(IntKind.wrap .i64 hd)))-(48:Int)))))
theorem tq (v0:ByteArray) (rest:List Int):∀ (i:Nat) (v4:Int),(bu v0).drop i=rest→v0.size≤9223372036854775807→Ans (dm v0 rest i v4) (tr v0 v4 (i:Int)):=by
 induction rest with
 | nil =>
  intro i v4 hE hl
  have hb:=m0 hE
  unfold dm
  exact Ib (Id (show gC (dk v0 v4 (i:Int)) (.exit 0) (ef v0 v4) from RP [.b false] (AC hb<|AN)) (by intro h;cases h))
 | cons hd rest ih =>
  intro i v4 hE hl
  have hb:=l7 hE
  have hw:=l8 hE hl
  have hE2:=aG hE
  have hp:=oF hE
  obtain rfl:=oE hE
  unfold dm
  apply Ie<;>intro h2
  ·exact Ib (Id (show gC (dk v0 v4 (i:Int)) .ret (fe (0:Int) false) from RP [.b true,.b true] (AC hb<|AC hp<|AC h2<|AN)) (by intro h;cases h))
  ·apply Ie<;>intro h3
   ·exact Ib (Id (show gC (dk v0 v4 (i:Int)) .ret (fe (0:Int) false) from RP [.b true,.b false,.b true] (AC hb<|AC hp<|AC h2<|AC hp<|AC h3<|AN)) (by intro h;cases h))
   ·exact (ih (i+1) (IntKind.wrap .i64 ((IntKind.wrap .i64 ((IntKind.wrap .i64 ((10:Int)*v4))+(IntKind.wrap .i64 (eG v0 (i:Int)))))-(48:Int))) hE2 hl).mono fun y hy=>by have r:gC (dk v0 v4 (i:Int)) .normal (dk v0 (IntKind.wrap .i64 ((IntKind.wrap .i64 ((IntKind.wrap .i64 ((10:Int)*v4))+(IntKind.wrap .i64 (eG v0 (i:Int)))))-(48:Int))) (inc (i:Int))):=RP [.b true,.b false,.b false] (AC hb<|AC hp<|AC h2<|AC hp<|AC h3<|AC hp<|AN);rw [hw] at r;cases y<;>exact Ic r hy
noncomputable def ij (x0:ByteArray):Option (Int×Bool) :=
  cond (decide ((x0.size:Int)>(10:Int)))
   (some ((0:Int),false))
   (if x0.size≤9223372036854775807 then (dm x0 (bu x0) 0 (0:Int)).bind fun y=>match y with
    | .ret w0_2 w0_3=>(some (w0_2,w0_3))
    | .x0 w0_4=>(cond (decide (w0_4>(1000000000:Int)))
     (some ((0:Int),false))
     (if -9223372036854775808≤w0_4∧w0_4≤9223372036854775807 then cond (!((af w0_4).toList==x0.toList))
      (some ((0:Int),false))
      (some (w0_4,true)) else none)) else none)
theorem uz (x0:ByteArray):Ans (ij x0) (fun r=>Does E 118 [.one (tS x0)] [(false,[tI r.1]),(false,[tB r.2])]):=by
 unfold ij
 apply Ie<;>intro h0
 ·exact Ib (DP Tryz.f118 [.b true] (AC h0<|AN))
 ·refine Ig (fun hl2 => ?_)
  refine If (fun y hy => ?_)
  replace hy:=tq x0 (bu x0) 0 (0:Int) rfl hl2 y hy
  cases y with
  | ret w0_2 w0_3 =>
   have h1:=hy
   exact Ib (DP Tryz.f118 [.b false,.lp .ret (fe w0_2 w0_3)] (AC h0<|AL h1<|AN))
  | x0 w0_4 =>
   have h1:=hy
   apply Ie<;>intro h2
   ·exact Ib (DP Tryz.f118 [.b false,.lp (.exit 0) (ef x0 w0_4),.b true] (AC h0<|AL h1<|AC h2<|AN))
   ·refine Ig (fun h3 => ?_)
    apply Ie<;>intro h4
    ·exact Ib (DP Tryz.f118 [.b false,.lp (.exit 0) (ef x0 w0_4),.b false,.ret [(false,[tS (af w0_4)])],.b true] (AC h0<|AL h1<|AC h2<|AD (cD w0_4 h3)<|AC h4<|AN))
    ·exact Ib (DP Tryz.f118 [.b false,.lp (.exit 0) (ef x0 w0_4),.b false,.ret [(false,[tS (af w0_4)])],.b false] (AC h0<|AL h1<|AC h2<|AD (cD w0_4 h3)<|AC h4<|AN))
inductive m8 where
 | ret (v2:Int) (v3:Bool)
 | x0 (v4:Int)
def dg (v0:ByteArray) (v4 v5:Int):US:=stL 47 [(0,.one (tS v0)),(4,.one (tI v4)),(5,.one (tI v5))]
def fd (zv2:Int) (zv3:Bool):US:=stL 47 [(2,.one (tI zv2)),(3,.one (tB zv3))]
def d9 (v0:ByteArray) (zv4:Int):US:=stL 47 [(0,.one (tS v0)),(4,.one (tI zv4))]
abbrev gw:US→Exit→US→Prop:=Round E 127 (au Tryz.f127 0)
def tb (v0:ByteArray) (v4 v5:Int):m8→Prop
 | .ret zv2 zv3=>Loops E 127 (au Tryz.f127 0) (dg v0 v4 v5) .ret (fd zv2 zv3)
 | .x0 zv4=>Loops E 127 (au Tryz.f127 0) (dg v0 v4 v5) (.exit 0) (d9 v0 zv4)
noncomputable def dh (v0:ByteArray):List Int→Nat→Int→Option m8
 | [],i,v4=>some (.x0 v4)
 | hd::rest,i,v4=>cond (decide (hd<(48:Int)))
  (some (.ret (0:Int) false))
  (cond (decide (hd>(57:Int)))
   (some (.ret (0:Int) false))
   (dh v0 rest (i+1) (IntKind.wrap .i64 ((IntKind.wrap .i64 (v4*(10:Int)))+(IntKind.wrap .i64 (IntKind.wrap .u8 (hd-(48:Int))))))))
theorem ta (v0:ByteArray) (rest:List Int):∀ (i:Nat) (v4:Int),(bu v0).drop i=rest→v0.size≤9223372036854775807→Ans (dh v0 rest i v4) (tb v0 v4 (i:Int)):=by
 induction rest with
 | nil =>
  intro i v4 hE hl
  have hb:=m0 hE
  unfold dh
  exact Ib (Id (show gw (dg v0 v4 (i:Int)) (.exit 0) (d9 v0 v4) from RP [.b false] (AC hb<|AN)) (by intro h;cases h))
 | cons hd rest ih =>
  intro i v4 hE hl
  have hb:=l7 hE
  have hw:=l8 hE hl
  have hE2:=aG hE
  have hp:=oF hE
  obtain rfl:=oE hE
  unfold dh
  apply Ie<;>intro h2
  ·exact Ib (Id (show gw (dg v0 v4 (i:Int)) .ret (fd (0:Int) false) from RP [.b true,.b true] (AC hb<|AC hp<|AC h2<|AN)) (by intro h;cases h))
  ·apply Ie<;>intro h3
   ·exact Ib (Id (show gw (dg v0 v4 (i:Int)) .ret (fd (0:Int) false) from RP [.b true,.b false,.b true] (AC hb<|AC hp<|AC h2<|AC hp<|AC h3<|AN)) (by intro h;cases h))
   ·exact (ih (i+1) (IntKind.wrap .i64 ((IntKind.wrap .i64 (v4*(10:Int)))+(IntKind.wrap .i64 (IntKind.wrap .u8 ((eG v0 (i:Int))-(48:Int)))))) hE2 hl).mono fun y hy=>by have r:gw (dg v0 v4 (i:Int)) .normal (dg v0 (IntKind.wrap .i64 ((IntKind.wrap .i64 (v4*(10:Int)))+(IntKind.wrap .i64 (IntKind.wrap .u8 ((eG v0 (i:Int))-(48:Int)))))) (inc (i:Int))):=RP [.b true,.b false,.b false] (AC hb<|AC hp<|AC h2<|AC hp<|AC h3<|AC hp<|AN);rw [hw] at r;cases y<;>exact Ic r hy
noncomputable def ib (x0:ByteArray):Option (Int×Bool) :=
  cond ((x0.size:Int)==(0:Int))
   (some ((0:Int),false))
   (cond (decide ((x0.size:Int)>(10:Int)))
    (some ((0:Int),false))
    (if x0.size≤9223372036854775807 then (dh x0 (bu x0) 0 (0:Int)).bind fun y=>match y with
     | .ret w0_2 w0_3=>(some (w0_2,w0_3))
     | .x0 w0_4=>(cond (decide (w0_4>(1000000000:Int)))
      (some ((0:Int),false))
      (if -9223372036854775808≤w0_4∧w0_4≤9223372036854775807 then cond (!((af w0_4).toList==x0.toList))
       (some ((0:Int),false))
       (some (w0_4,true)) else none)) else none))
theorem uh (x0:ByteArray):Ans (ib x0) (fun r=>Does E 127 [.one (tS x0)] [(false,[tI r.1]),(false,[tB r.2])]):=by
 unfold ib
 apply Ie<;>intro h0
 ·exact Ib (DP Tryz.f127 [.b true] (AC h0<|AN))
 ·apply Ie<;>intro h1
  ·exact Ib (DP Tryz.f127 [.b false,.b true] (AC h0<|AC h1<|AN))
  ·refine Ig (fun hl3 => ?_)
   refine If (fun y hy => ?_)
   replace hy:=ta x0 (bu x0) 0 (0:Int) rfl hl3 y hy
   cases y with
   | ret w0_2 w0_3 =>
    have h2:=hy
    exact Ib (DP Tryz.f127 [.b false,.b false,.lp .ret (fd w0_2 w0_3)] (AC h0<|AC h1<|AL h2<|AN))
   | x0 w0_4 =>
    have h2:=hy
    apply Ie<;>intro h3
    ·exact Ib (DP Tryz.f127 [.b false,.b false,.lp (.exit 0) (d9 x0 w0_4),.b true] (AC h0<|AC h1<|AL h2<|AC h3<|AN))
    ·refine Ig (fun h4 => ?_)
     apply Ie<;>intro h5
     ·exact Ib (DP Tryz.f127 [.b false,.b false,.lp (.exit 0) (d9 x0 w0_4),.b false,.ret [(false,[tS (af w0_4)])],.b true] (AC h0<|AC h1<|AL h2<|AC h3<|AD (cY w0_4 h4)<|AC h5<|AN))
     ·exact Ib (DP Tryz.f127 [.b false,.b false,.lp (.exit 0) (d9 x0 w0_4),.b false,.ret [(false,[tS (af w0_4)])],.b false] (AC h0<|AC h1<|AL h2<|AC h3<|AD (cY w0_4 h4)<|AC h5<|AN))
def i7:List UInt8→Int→Option Int
 | [],v=>some v
 | b::l,v=>if 48≤b.toNat∧b.toNat≤57 then i7 l (10*v+((b.toNat:Int)-48)) else none
noncomputable def aa (s:ByteArray):Int×Bool :=
 if 10<s.size then (0,false) else match i7 (tx s) 0 with
  | none=>(0,false)
  | some n=>if 1000000000<n then (0,false) else if tx (af n)=tx s then (n,true) else (0,false)
theorem sM:∀ (l:List UInt8) (v:Int) (k:Nat) (r:Int),0≤v→v<10 ^ k→i7 l v=some r→0≤r∧r<10 ^ (k+l.length)
 | [],v,k,r,h0,h1,h=>by cases h;exact ⟨h0,h1⟩
 | b::l,v,k,r,h0,h1,h=>by
  unfold i7 at h
  split at h
  ·rename_i hb
   have:=sM l (10*v+((b.toNat:Int)-48)) (k+1) r (by omega) (by rw [Int.pow_succ];omega) h
   rw [List.length_cons,show k+(l.length+1)=k+1+l.length by omega]
   exact this
  ·cases h
theorem yQ {k n:Nat} (h:k≤n):(10:Int) ^ k≤10 ^ n:=by
 have:=Nat.pow_le_pow_right (n:=10) (by omega) h
 have e:∀ m:Nat,(10:Int) ^ m=((10 ^ m:Nat):Int):=fun m=>by simp
 rw [e,e];omega
theorem yS (s:ByteArray):∀ (l:List UInt8) (i:Nat) (v:Int) (k:Nat),0≤v→v<10 ^ k→k+l.length≤10 →
  dm s (l.map fun b=>(b.toNat:Int)) i v=some (match i7 l v with | some r => .x0 r | none => .ret 0 false) ∧
  dh s (l.map fun b=>(b.toNat:Int)) i v=some (match i7 l v with | some r => .x0 r | none => .ret 0 false)
 | [],i,v,k,_,_,_=>⟨rfl,rfl⟩
 | b::l,i,v,k,h0,h1,hk=>by
  have hp:=yQ (show k≤10 by omega)
  have e10:(10:Int) ^ 10=10000000000:=by decide
  rw [List.map_cons]
  unfold dm dh i7
  have bl:=b.toNat_lt
  by_cases h:b.toNat<48
  ·rw [decide_eq_true (by omega:((b.toNat:Int)<48)),if_neg (by omega)]
   exact ⟨rfl,rfl⟩
  ·rw [decide_eq_false (by omega:¬ ((b.toNat:Int)<48)),cond_false,cond_false]
   by_cases h':57<b.toNat
   ·rw [decide_eq_true (by omega:((b.toNat:Int)>57)),if_neg (by omega)]
    exact ⟨rfl,rfl⟩
   ·rw [decide_eq_false (by omega:¬ ((b.toNat:Int)>57)),if_pos (by omega),cond_false,cond_false]
    have w1:IntKind.wrap .i64 (IntKind.wrap .i64 (IntKind.wrap .i64 (10*v)+IntKind.wrap .i64 (b.toNat:Int))-48)=10*v+((b.toNat:Int)-48):=by
     rw [cW (10*v) (by omega) (by omega),cW (b.toNat:Int) (by omega) (by omega),cW (10*v+(b.toNat:Int)) (by omega) (by omega),cW _ (by omega) (by omega)];omega
    have w2:IntKind.wrap .i64 (IntKind.wrap .i64 (v*10)+IntKind.wrap .i64 (IntKind.wrap .u8 ((b.toNat:Int)-48)))=10*v+((b.toNat:Int)-48):=by
     rw [EQ (by omega) (by omega),cW (v*10) (by omega) (by omega),cW ((b.toNat:Int)-48) (by omega) (by omega),cW _ (by omega) (by omega)];omega
    rw [w1,w2]
    simp only [List.length_cons] at hk
    exact yS s l (i+1) _ (k+1) (by omega) (by rw [Int.pow_succ];omega) (by omega)
theorem ol {s:ByteArray} (h:¬ 10<s.size) {r:Int} (hr:i7 (tx s) 0=some r):0≤r∧r<10000000000:=by
 have:=sM (tx s) 0 0 r (by omega) (by decide) hr
 have hp:=yQ (show 0+(tx s).length≤10 by rw [← br];omega)
 have e10:(10:Int) ^ 10=10000000000:=by decide
 omega
theorem Dv (s:ByteArray):ij s=some (aa s):=by
 unfold ij aa
 by_cases h:10<s.size
 ·rw [decide_eq_true (by omega),if_pos h];rfl
 ·obtain ⟨e, -⟩:=yS s (tx s) 0 0 0 (by omega) (by decide) (by rw [← br];omega)
  rw [decide_eq_false (by omega),if_neg h,cond_false,if_pos (by omega),mK,e]
  cases q:i7 (tx s) 0 with
  | none=>rfl
  | some n =>
   obtain ⟨n0,n1⟩:=ol h q
   simp only [Option.bind_some]
   by_cases z:1000000000<n
   ·rw [decide_eq_true (by omega),if_pos z];rfl
   ·rw [decide_eq_false (by omega),if_neg z,cond_false,if_pos (by omega),mR]
    by_cases y:tx (af n)=tx s
    ·rw [decide_eq_true y,if_pos y];rfl
    ·rw [decide_eq_false y,if_neg y];rfl
theorem Du (s:ByteArray):ib s=some (aa s):=by
 unfold ib aa
 by_cases hz:s.size=0
 ·have ht:tx s=[]:=List.eq_nil_of_length_eq_zero (by rw [← br];exact hz)
  have e1:((s.size:Int)==0)=true:=by rw [hz];rfl
  rw [e1,cond_true,if_neg (by omega),ht]
  unfold i7
  simp only
  have:¬ tx (af 0)=[]:=by
   unfold af Lib.itoa
   rw [if_neg (by omega),Lib.decDigits,dif_pos (by simp)]
   simp [tx]
  rw [if_neg (by omega),if_neg this]
 have e1:((s.size:Int)==0)=false:=by rw [beq_eq_false_iff_ne];omega
 rw [e1,cond_false]
 by_cases h:10<s.size
 ·rw [decide_eq_true (by omega),if_pos h];rfl
 ·obtain ⟨-,e⟩:=yS s (tx s) 0 0 0 (by omega) (by decide) (by rw [← br];omega)
  rw [decide_eq_false (by omega),if_neg h,cond_false,if_pos (by omega),mK,e]
  cases q:i7 (tx s) 0 with
  | none=>rfl
  | some n =>
   obtain ⟨n0,n1⟩:=ol h q
   simp only [Option.bind_some]
   by_cases z:1000000000<n
   ·rw [decide_eq_true (by omega),if_pos z];rfl
   ·rw [decide_eq_false (by omega),if_neg z,cond_false,if_pos (by omega),mR]
    by_cases y:tx (af n)=tx s
    ·rw [decide_eq_true y,if_pos y];rfl
    ·rw [decide_eq_false y,if_neg y];rfl
theorem Cf (s:ByteArray):0≤(aa s).1∧(aa s).1≤1000000000:=by
 unfold aa
 split
 ·exact ⟨Int.le_refl _,by decide⟩
 ·rename_i h
  split
  ·exact ⟨Int.le_refl _,by decide⟩
  ·rename_i n q
   obtain ⟨n0,n1⟩:=ol h q
   split
   ·exact ⟨Int.le_refl _,by decide⟩
   ·split
    ·exact ⟨n0,by show n≤_;omega⟩
    ·exact ⟨Int.le_refl _,by decide⟩
theorem wc:∀ {l:List UInt8} {b:UInt8} (v:Int),b∈l→¬ (48≤b.toNat∧b.toNat≤57)→i7 l v=none
 | x::l,b,v,h,hb=>by
  unfold i7
  rcases List.mem_cons.1 h with rfl | h
  ·rw [if_neg hb]
  ·split
   ·exact wc _ h hb
   ·rfl
theorem sL {s:ByteArray} {b:UInt8} (h:b∈tx s) (hb:¬ (48≤b.toNat∧b.toNat≤57)):aa s=(0,false):=by
 unfold aa
 rw [wc 0 h hb]
 split<;>rfl
theorem kq (x0:ByteArray):Does E 118 [.one (tS x0)] [(false,[tI ((aa x0).1)]),(false,[tB ((aa x0).2)])]:=by
 exact uz x0 _ (Dv x0)
theorem ao (x0:ByteArray) {bb:Bool} (hbb:(aa x0).2=bb):Does E 118 [.one (tS x0)] [(false,[tI ((aa x0).1)]),(false,[tB bb])]:=by rw [← hbb];exact kq x0
theorem nA (x0:ByteArray):Does E 127 [.one (tS x0)] [(false,[tI ((aa x0).1)]),(false,[tB ((aa x0).2)])]:=by
 exact uh x0 _ (Du x0)
theorem aU (x0:ByteArray) {bb:Bool} (hbb:(aa x0).2=bb):Does E 127 [.one (tS x0)] [(false,[tI ((aa x0).1)]),(false,[tB bb])]:=by rw [← hbb];exact nA x0
inductive qg where
 | x0 (v5:List ByteArray)
def dP (v0:ByteArray) (v1:Int) (v5:List ByteArray) (v6 v7:Int):US:=stL 36 [(0,.one (tS v0)),(1,.one (tY v1)),(5,.one (.s .own () 1 (v5.map etS))),(6,.one (tI v6)),(7,.one (tI v7))]
def kZ (zv5:List ByteArray):US:=stL 36 [(5,.one (.s .own () 1 (zv5.map etS)))]
abbrev jN:US→Exit→US→Prop:=Round E 101 (au Tryz.f101 0)
def wT (v0:ByteArray) (v1:Int) (v5:List ByteArray) (v6 v7:Int):qg→Prop
 | .x0 zv5=>Loops E 101 (au Tryz.f101 0) (dP v0 v1 v5 v6 v7) (.exit 0) (kZ zv5)
noncomputable def cG (v0:ByteArray) (v1:Int):Nat→(List ByteArray)→Int→Int→Option qg
 | 0,_,_,_=>none
 | n+1,v5,v6,v7=>cond (decide (v7≤(v0.size:Int)))
  (cond (v7==(v0.size:Int))
   (if 0≤v6∧v6≤v7∧v7≤(v0.size:Int) then if (v5.length+([v0.extract v6.toNat v7.toNat]).length)*16≤140737488355328∧v5.length+([v0.extract v6.toNat v7.toNat]).length≤4611686018427387904 then cG v0 v1 n (v5++([v0.extract v6.toNat v7.toNat])) (inc v7) (inc v7) else none else none)
   (if 0≤v7∧v7<(v0.size:Int) then cond ((eG v0 v7)==v1)
    (if 0≤v6∧v6≤v7∧v7≤(v0.size:Int) then if (v5.length+([v0.extract v6.toNat v7.toNat]).length)*16≤140737488355328∧v5.length+([v0.extract v6.toNat v7.toNat]).length≤4611686018427387904 then cG v0 v1 n (v5++([v0.extract v6.toNat v7.toNat])) (inc v7) (inc v7) else none else none)
    (cG v0 v1 n v5 v6 (inc v7)) else none))
  (some (.x0 v5))
theorem wS (v0:ByteArray) (v1:Int) (n:Nat):∀ (v5:List ByteArray) (v6 v7:Int),Ans (cG v0 v1 n v5 v6 v7) (wT v0 v1 v5 v6 v7):=by
 induction n with
 | zero=>intros;exact Ans.none
 | succ n ih =>
  intro v5 v6 v7
  unfold cG
  apply Ie<;>intro h0
  ·apply Ie<;>intro h1
   ·refine Ig (fun h2 => ?_)
    refine Ig (fun h3 => ?_)
    have r:jN (dP v0 v1 v5 v6 v7) .normal (dP v0 v1 (v5++([v0.extract v6.toNat v7.toNat])) (inc v7) (inc v7)):=RP [.b true,.b true,.rows ((v5++([v0.extract v6.toNat v7.toNat])).map etS)] (AC h0<|AC h1<|AC h2<|AAp etS (fun _=>rfl) h3<|AN);exact (ih (v5++([v0.extract v6.toNat v7.toNat])) (inc v7) (inc v7)).mono fun y hy=>by cases y<;>exact Ic r hy
   ·refine Ig (fun h2 => ?_)
    apply Ie<;>intro h3
    ·refine Ig (fun h4 => ?_)
     refine Ig (fun h5 => ?_)
     have r:jN (dP v0 v1 v5 v6 v7) .normal (dP v0 v1 (v5++([v0.extract v6.toNat v7.toNat])) (inc v7) (inc v7)):=RP [.b true,.b false,.b true,.rows ((v5++([v0.extract v6.toNat v7.toNat])).map etS)] (AC h0<|AC h1<|AC h2<|AC h3<|AC h4<|AAp etS (fun _=>rfl) h5<|AN);exact (ih (v5++([v0.extract v6.toNat v7.toNat])) (inc v7) (inc v7)).mono fun y hy=>by cases y<;>exact Ic r hy
    ·have r:jN (dP v0 v1 v5 v6 v7) .normal (dP v0 v1 v5 v6 (inc v7)):=RP [.b true,.b false,.b false] (AC h0<|AC h1<|AC h2<|AC h3<|AN);exact (ih v5 v6 (inc v7)).mono fun y hy=>by cases y<;>exact Ic r hy
  ·exact Ib (Id (show jN (dP v0 v1 v5 v6 v7) (.exit 0) (kZ v5) from RP [.b false] (AC h0<|AN)) (by intro h;cases h))
noncomputable def k6 (x0:ByteArray) (x1:Int):Option ((List ByteArray)) :=
  (cG x0 x1 9223372036854775808 ([]) (0:Int) (0:Int)).bind fun y=>match y with
   | .x0 w0_5=>(some (w0_5))
theorem zf (x0:ByteArray) (x1:Int):Ans (k6 x0 x1) (fun r=>Does E 101 [.one (tS x0),.one (tY x1)] [(false,[.s .own () 1 (r.map etS)])]):=by
 unfold k6
 refine If (fun y hy => ?_)
 replace hy:=wS x0 x1 9223372036854775808 ([]) (0:Int) (0:Int) y hy
 cases y with
 | x0 w0_5 =>
  have h0:=hy
  exact Ib (DP Tryz.f101 [.lp (.exit 0) (kZ w0_5)] (AL h0<|AN))
noncomputable def ag (s:ByteArray) (c:Int):List ByteArray:=(bo (UInt8.ofNat c.toNat) (tx s)).map ofTx
theorem DE (s:ByteArray) (c:UInt8) (hs:s.size≤2000000):∀ (m i a:Nat) (v:List ByteArray) (n:Nat),i+m=(tx s).length→m+1<n→a≤i→v.length+m≤2000000 →
  cG s (c.toNat:Int) n v (a:Int) (i:Int)=some (.x0 (v++(ff (seg (tx s) a i) (bo c ((tx s).drop i))).map ofTx))
 | m,i,a,v,n,hi,hn,ha,hv=>by
  obtain ⟨n,rfl⟩:∃ k,n=k+2:=⟨n-2,by omega⟩
  have hsz:=br s
  unfold cG
  rw [decide_eq_true (by omega:(i:Int)≤(s.size:Int)),cond_true]
  have hinc:inc (i:Int)=((i+1:Nat):Int):=by rw [m9 _ (by omega) (by omega)];omega
  cases m with
  | zero =>
   have hd:(tx s).drop i=[]:=List.drop_eq_nil_of_le (by omega)
   have stop:∀ w b,cG s (c.toNat:Int) (n+1) w b ((i+1:Nat):Int)=some (.x0 w):=fun w b=>by
    unfold cG
    rw [decide_eq_false (by omega)];rfl
   have hc:ff (seg (tx s) a i) (bo c ([]:List UInt8))=[seg (tx s) a i]:=by simp [bo,ff]
   have e:((i:Int)==(s.size:Int))=true:=by rw [beq_iff_eq];omega
   rw [e,cond_true,if_pos (by omega),if_pos (by simp;omega),hinc,stop,hd,hc,show ((a:Int).toNat)=a by omega,show ((i:Int).toNat)=i by omega,jt];rfl
  | succ m =>
   obtain ⟨b,r,hd,hg,hr⟩:=xY (l:=tx s) (i:=i) (by omega)
   have hb:=xz hg
   have ih:=fun a' v' (h1:a'≤i+1) (h2:v'.length+m≤2000000)=>DE s c hs m (i+1) a' v' (n+1) (by omega) (by omega) h1 h2
   rw [hr] at ih
   have e:((i:Int)==(s.size:Int))=false:=by rw [beq_eq_false_iff_ne];omega
   rw [e,cond_false,if_pos (by omega),hb,hinc,hd]
   by_cases q:b=c
   ·subst q
    have hgl:ff (seg (tx s) a i) ([]::bo b r)=seg (tx s) a i::bo b r:=by simp [ff]
    have hz:ff (seg (tx s) (i+1) (i+1)) (bo b r)=bo b r:=by rw [np];exact pp _ (fh _ _)
    have:=ih (i+1) (v++[s.extract a i]) (by omega) (by simp;omega)
    rw [hz] at this
    rw [beq_self_eq_true,cond_true,if_pos (by omega),if_pos (by simp;omega),mX,hgl]
    rw [show ((a:Int).toNat)=a by omega,show ((i:Int).toNat)=i by omega,this,jt]
    simp
   ·have e:((b.toNat:Int)==(c.toNat:Int))=false:=by
     rw [beq_eq_false_iff_ne]
     intro h
     exact q (UInt8.toNat_inj.1 (by omega))
    rw [e,cond_false,ih a v (by omega) (by omega),kb q,vU _ _ _ (fh _ _), ← zl ha hg]
theorem B4 (s:ByteArray) (c:Int) (hs:s.size≤2000000) (hc:0≤c∧c<256):k6 s c=some (ag s c):=by
 have hz:ff (seg (tx s) 0 0) (bo (UInt8.ofNat c.toNat) (tx s))=bo (UInt8.ofNat c.toNat) (tx s):=by rw [np];exact pp _ (fh _ _)
 have e:=DE s (UInt8.ofNat c.toNat) hs (tx s).length 0 0 [] 9223372036854775808 (by omega) (by rw [← br];omega) (by omega) (by rw [← br];simp;omega)
 have ec:(((UInt8.ofNat c.toNat).toNat:Nat):Int)=c:=by rw [UInt8.toNat_ofNat'];omega
 rw [List.drop_zero,hz,List.nil_append,ec] at e
 unfold k6 ag
 refine (congrArg (Option.bind · _) e).trans ?_
 rfl
theorem aK (x0:ByteArray) (x1:Int) (h:x0.size≤2000000) (hc:0≤x1∧x1<256):Does E 101 [.one (tS x0),.one (tY x1)] [(false,[.s .own () 1 ((ag x0 x1).map etS)])]:=by
 exact zf x0 x1 _ (B4 x0 x1 h hc)
noncomputable def iI (x0:ByteArray) (x1 x2:Int):Option (Int×Int×Int×Bool) :=
  cond (x0.toList==(⟨#[42]⟩:ByteArray).toList)
   (some (x1,x2,(1:Int),true))
   (cond (decide ((x0.size:Int)>(2:Int)))
    (if 0≤(0:Int)∧(0:Int)≤(2:Int)∧(2:Int)≤(x0.size:Int) then cond ((x0.extract (0:Int).toNat (2:Int).toNat).toList==(⟨#[42,47]⟩:ByteArray).toList)
     (if 0≤(2:Int)∧(2:Int)≤(x0.size:Int)∧(x0.size:Int)≤(x0.size:Int) then cond ((aa (x0.extract (2:Int).toNat (x0.size:Int).toNat)).2)
      (some (x1,x2,(aa (x0.extract (2:Int).toNat (x0.size:Int).toNat)).1,decide (((aa (x0.extract (2:Int).toNat (x0.size:Int).toNat)).1)≥(1:Int))))
      (some (x1,x2,(aa (x0.extract (2:Int).toNat (x0.size:Int).toNat)).1,false)) else none)
     (if x0.size≤2000000 then if 0≤(45:Int)∧(45:Int)<256 then (aL (ag x0 (45:Int)) (0:Int)).bind fun g0=>cond ((aa g0).2)
      (cond (((ag x0 (45:Int)).length:Int)==(2:Int))
       ((aL (ag x0 (45:Int)) (1:Int)).bind fun g1=>cond ((aa g1).2)
        (cond (decide (((ag x0 (45:Int)).length:Int)≤(2:Int)))
         (cond (decide (x1≤((aa g0).1)))
          (cond (decide (((aa g0).1)≤((aa g1).1)))
           (some ((aa g0).1,(aa g1).1,(1:Int),decide (((aa g1).1)≤x2)))
           (some ((aa g0).1,(aa g1).1,(1:Int),false)))
          (some ((aa g0).1,(aa g1).1,(1:Int),false)))
         (some ((aa g0).1,(aa g1).1,(1:Int),false)))
        (some ((aa g0).1,(aa g1).1,(1:Int),false)))
       (cond (decide (((ag x0 (45:Int)).length:Int)≤(2:Int)))
        (cond (decide (x1≤((aa g0).1)))
         (cond (decide (((aa g0).1)≤((aa g0).1)))
          (some ((aa g0).1,(aa g0).1,(1:Int),decide (((aa g0).1)≤x2)))
          (some ((aa g0).1,(aa g0).1,(1:Int),false)))
         (some ((aa g0).1,(aa g0).1,(1:Int),false)))
        (some ((aa g0).1,(aa g0).1,(1:Int),false))))
      (cond (((ag x0 (45:Int)).length:Int)==(2:Int))
       ((aL (ag x0 (45:Int)) (1:Int)).bind fun g1=>some ((aa g0).1,(aa g1).1,(1:Int),false))
       (some ((aa g0).1,(aa g0).1,(1:Int),false))) else none else none) else none)
    (if x0.size≤2000000 then if 0≤(45:Int)∧(45:Int)<256 then (aL (ag x0 (45:Int)) (0:Int)).bind fun g0=>cond ((aa g0).2)
     (cond (((ag x0 (45:Int)).length:Int)==(2:Int))
      ((aL (ag x0 (45:Int)) (1:Int)).bind fun g1=>cond ((aa g1).2)
       (cond (decide (((ag x0 (45:Int)).length:Int)≤(2:Int)))
        (cond (decide (x1≤((aa g0).1)))
         (cond (decide (((aa g0).1)≤((aa g1).1)))
          (some ((aa g0).1,(aa g1).1,(1:Int),decide (((aa g1).1)≤x2)))
          (some ((aa g0).1,(aa g1).1,(1:Int),false)))
         (some ((aa g0).1,(aa g1).1,(1:Int),false)))
        (some ((aa g0).1,(aa g1).1,(1:Int),false)))
       (some ((aa g0).1,(aa g1).1,(1:Int),false)))
      (cond (decide (((ag x0 (45:Int)).length:Int)≤(2:Int)))
       (cond (decide (x1≤((aa g0).1)))
        (cond (decide (((aa g0).1)≤((aa g0).1)))
         (some ((aa g0).1,(aa g0).1,(1:Int),decide (((aa g0).1)≤x2)))
         (some ((aa g0).1,(aa g0).1,(1:Int),false)))
        (some ((aa g0).1,(aa g0).1,(1:Int),false)))
       (some ((aa g0).1,(aa g0).1,(1:Int),false))))
     (cond (((ag x0 (45:Int)).length:Int)==(2:Int))
      ((aL (ag x0 (45:Int)) (1:Int)).bind fun g1=>some ((aa g0).1,(aa g1).1,(1:Int),false))
      (some ((aa g0).1,(aa g0).1,(1:Int),false))) else none else none))
theorem zb (x0:ByteArray) (x1 x2:Int):Ans (iI x0 x1 x2) (fun r=>Does E 102 [.one (tS x0),.one (tI x1),.one (tI x2)] [(false,[tI r.1]),(false,[tI r.2.1]),(false,[tI r.2.2.1]),(false,[tB r.2.2.2])]):=by
 unfold iI
 apply Ie<;>intro h0
 ·exact Ib (DP Tryz.f102 [.b true] (AC h0<|AN))
 ·apply Ie<;>intro h1
  ·refine Ig (fun h2 => ?_)
   apply Ie<;>intro h3
   ·refine Ig (fun h4 => ?_)
    apply Ie<;>intro h5
    ·exact Ib (DP Tryz.f102 [.b false,.b true,.b true,.ret [(false,[tI ((aa (x0.extract (2:Int).toNat (x0.size:Int).toNat)).1)]),(false,[tB true])]] (AC h0<|AC h1<|AC h2<|AC h3<|AC h4<|AD (ao (x0.extract (2:Int).toNat (x0.size:Int).toNat) h5)<|AN))
    ·exact Ib (DP Tryz.f102 [.b false,.b true,.b true,.ret [(false,[tI ((aa (x0.extract (2:Int).toNat (x0.size:Int).toNat)).1)]),(false,[tB false])]] (AC h0<|AC h1<|AC h2<|AC h3<|AC h4<|AD (ao (x0.extract (2:Int).toNat (x0.size:Int).toNat) h5)<|AN))
   ·refine Ig (fun h4 => ?_)
    refine Ig (fun h5 => ?_)
    refine If (fun g0 h6 => ?_)
    apply Ie<;>intro h7
    ·apply Ie<;>intro h8
     ·refine If (fun g1 h9 => ?_)
      apply Ie<;>intro h10
      ·apply Ie<;>intro h11
       ·apply Ie<;>intro h12
        ·apply Ie<;>intro h13
         ·exact Ib (DP Tryz.f102 [.b false,.b true,.b false,.ret [(false,[.s .own () 1 ((ag x0 (45:Int)).map etS)])],.row (etS g0),.ret [(false,[tI ((aa g0).1)]),(false,[tB true])],.val (.int .i64 ((ag x0 (45:Int)).length:Int)),.b true,.row (etS g1),.ret [(false,[tI ((aa g1).1)]),(false,[tB true])],.val (.int .i64 ((ag x0 (45:Int)).length:Int)),.b true,.b true,.b true] (AC h0<|AC h1<|AC h2<|AC h3<|AD (aK x0 (45:Int) h4 h5)<|AG etS h6<|AD (ao g0 h7)<|ALn (ag x0 (45:Int)) etS<|AC h8<|AG etS h9<|AD (ao g1 h10)<|ALn (ag x0 (45:Int)) etS<|AC h11<|AC h12<|AC h13<|AN))
         ·exact Ib (DP Tryz.f102 [.b false,.b true,.b false,.ret [(false,[.s .own () 1 ((ag x0 (45:Int)).map etS)])],.row (etS g0),.ret [(false,[tI ((aa g0).1)]),(false,[tB true])],.val (.int .i64 ((ag x0 (45:Int)).length:Int)),.b true,.row (etS g1),.ret [(false,[tI ((aa g1).1)]),(false,[tB true])],.val (.int .i64 ((ag x0 (45:Int)).length:Int)),.b true,.b true,.b false] (AC h0<|AC h1<|AC h2<|AC h3<|AD (aK x0 (45:Int) h4 h5)<|AG etS h6<|AD (ao g0 h7)<|ALn (ag x0 (45:Int)) etS<|AC h8<|AG etS h9<|AD (ao g1 h10)<|ALn (ag x0 (45:Int)) etS<|AC h11<|AC h12<|AC h13<|AN))
        ·exact Ib (DP Tryz.f102 [.b false,.b true,.b false,.ret [(false,[.s .own () 1 ((ag x0 (45:Int)).map etS)])],.row (etS g0),.ret [(false,[tI ((aa g0).1)]),(false,[tB true])],.val (.int .i64 ((ag x0 (45:Int)).length:Int)),.b true,.row (etS g1),.ret [(false,[tI ((aa g1).1)]),(false,[tB true])],.val (.int .i64 ((ag x0 (45:Int)).length:Int)),.b true,.b false] (AC h0<|AC h1<|AC h2<|AC h3<|AD (aK x0 (45:Int) h4 h5)<|AG etS h6<|AD (ao g0 h7)<|ALn (ag x0 (45:Int)) etS<|AC h8<|AG etS h9<|AD (ao g1 h10)<|ALn (ag x0 (45:Int)) etS<|AC h11<|AC h12<|AN))
       ·exact Ib (DP Tryz.f102 [.b false,.b true,.b false,.ret [(false,[.s .own () 1 ((ag x0 (45:Int)).map etS)])],.row (etS g0),.ret [(false,[tI ((aa g0).1)]),(false,[tB true])],.val (.int .i64 ((ag x0 (45:Int)).length:Int)),.b true,.row (etS g1),.ret [(false,[tI ((aa g1).1)]),(false,[tB true])],.val (.int .i64 ((ag x0 (45:Int)).length:Int)),.b false] (AC h0<|AC h1<|AC h2<|AC h3<|AD (aK x0 (45:Int) h4 h5)<|AG etS h6<|AD (ao g0 h7)<|ALn (ag x0 (45:Int)) etS<|AC h8<|AG etS h9<|AD (ao g1 h10)<|ALn (ag x0 (45:Int)) etS<|AC h11<|AN))
      ·exact Ib (DP Tryz.f102 [.b false,.b true,.b false,.ret [(false,[.s .own () 1 ((ag x0 (45:Int)).map etS)])],.row (etS g0),.ret [(false,[tI ((aa g0).1)]),(false,[tB true])],.val (.int .i64 ((ag x0 (45:Int)).length:Int)),.b true,.row (etS g1),.ret [(false,[tI ((aa g1).1)]),(false,[tB false])]] (AC h0<|AC h1<|AC h2<|AC h3<|AD (aK x0 (45:Int) h4 h5)<|AG etS h6<|AD (ao g0 h7)<|ALn (ag x0 (45:Int)) etS<|AC h8<|AG etS h9<|AD (ao g1 h10)<|AN))
     ·apply Ie<;>intro h9
      ·apply Ie<;>intro h10
       ·apply Ie<;>intro h11
        ·exact Ib (DP Tryz.f102 [.b false,.b true,.b false,.ret [(false,[.s .own () 1 ((ag x0 (45:Int)).map etS)])],.row (etS g0),.ret [(false,[tI ((aa g0).1)]),(false,[tB true])],.val (.int .i64 ((ag x0 (45:Int)).length:Int)),.b false,.val (.int .i64 ((ag x0 (45:Int)).length:Int)),.b true,.b true,.b true] (AC h0<|AC h1<|AC h2<|AC h3<|AD (aK x0 (45:Int) h4 h5)<|AG etS h6<|AD (ao g0 h7)<|ALn (ag x0 (45:Int)) etS<|AC h8<|ALn (ag x0 (45:Int)) etS<|AC h9<|AC h10<|AC h11<|AN))
        ·exact Ib (DP Tryz.f102 [.b false,.b true,.b false,.ret [(false,[.s .own () 1 ((ag x0 (45:Int)).map etS)])],.row (etS g0),.ret [(false,[tI ((aa g0).1)]),(false,[tB true])],.val (.int .i64 ((ag x0 (45:Int)).length:Int)),.b false,.val (.int .i64 ((ag x0 (45:Int)).length:Int)),.b true,.b true,.b false] (AC h0<|AC h1<|AC h2<|AC h3<|AD (aK x0 (45:Int) h4 h5)<|AG etS h6<|AD (ao g0 h7)<|ALn (ag x0 (45:Int)) etS<|AC h8<|ALn (ag x0 (45:Int)) etS<|AC h9<|AC h10<|AC h11<|AN))
       ·exact Ib (DP Tryz.f102 [.b false,.b true,.b false,.ret [(false,[.s .own () 1 ((ag x0 (45:Int)).map etS)])],.row (etS g0),.ret [(false,[tI ((aa g0).1)]),(false,[tB true])],.val (.int .i64 ((ag x0 (45:Int)).length:Int)),.b false,.val (.int .i64 ((ag x0 (45:Int)).length:Int)),.b true,.b false] (AC h0<|AC h1<|AC h2<|AC h3<|AD (aK x0 (45:Int) h4 h5)<|AG etS h6<|AD (ao g0 h7)<|ALn (ag x0 (45:Int)) etS<|AC h8<|ALn (ag x0 (45:Int)) etS<|AC h9<|AC h10<|AN))
      ·exact Ib (DP Tryz.f102 [.b false,.b true,.b false,.ret [(false,[.s .own () 1 ((ag x0 (45:Int)).map etS)])],.row (etS g0),.ret [(false,[tI ((aa g0).1)]),(false,[tB true])],.val (.int .i64 ((ag x0 (45:Int)).length:Int)),.b false,.val (.int .i64 ((ag x0 (45:Int)).length:Int)),.b false] (AC h0<|AC h1<|AC h2<|AC h3<|AD (aK x0 (45:Int) h4 h5)<|AG etS h6<|AD (ao g0 h7)<|ALn (ag x0 (45:Int)) etS<|AC h8<|ALn (ag x0 (45:Int)) etS<|AC h9<|AN))
    ·apply Ie<;>intro h8
     ·refine If (fun g1 h9 => ?_)
      exact Ib (DP Tryz.f102 [.b false,.b true,.b false,.ret [(false,[.s .own () 1 ((ag x0 (45:Int)).map etS)])],.row (etS g0),.ret [(false,[tI ((aa g0).1)]),(false,[tB false])],.val (.int .i64 ((ag x0 (45:Int)).length:Int)),.b true,.row (etS g1),.ret [(false,[tI ((aa g1).1)]),(false,[tB ((aa g1).2)])]] (AC h0<|AC h1<|AC h2<|AC h3<|AD (aK x0 (45:Int) h4 h5)<|AG etS h6<|AD (ao g0 h7)<|ALn (ag x0 (45:Int)) etS<|AC h8<|AG etS h9<|AD (kq g1)<|AN))
     ·exact Ib (DP Tryz.f102 [.b false,.b true,.b false,.ret [(false,[.s .own () 1 ((ag x0 (45:Int)).map etS)])],.row (etS g0),.ret [(false,[tI ((aa g0).1)]),(false,[tB false])],.val (.int .i64 ((ag x0 (45:Int)).length:Int)),.b false] (AC h0<|AC h1<|AC h2<|AC h3<|AD (aK x0 (45:Int) h4 h5)<|AG etS h6<|AD (ao g0 h7)<|ALn (ag x0 (45:Int)) etS<|AC h8<|AN))
  ·refine Ig (fun h2 => ?_)
   refine Ig (fun h3 => ?_)
   refine If (fun g0 h4 => ?_)
   apply Ie<;>intro h5
   ·apply Ie<;>intro h6
    ·refine If (fun g1 h7 => ?_)
     apply Ie<;>intro h8
     ·apply Ie<;>intro h9
      ·apply Ie<;>intro h10
       ·apply Ie<;>intro h11
        ·exact Ib (DP Tryz.f102 [.b false,.b false,.ret [(false,[.s .own () 1 ((ag x0 (45:Int)).map etS)])],.row (etS g0),.ret [(false,[tI ((aa g0).1)]),(false,[tB true])],.val (.int .i64 ((ag x0 (45:Int)).length:Int)),.b true,.row (etS g1),.ret [(false,[tI ((aa g1).1)]),(false,[tB true])],.val (.int .i64 ((ag x0 (45:Int)).length:Int)),.b true,.b true,.b true] (AC h0<|AC h1<|AD (aK x0 (45:Int) h2 h3)<|AG etS h4<|AD (ao g0 h5)<|ALn (ag x0 (45:Int)) etS<|AC h6<|AG etS h7<|AD (ao g1 h8)<|ALn (ag x0 (45:Int)) etS<|AC h9<|AC h10<|AC h11<|AN))
        ·exact Ib (DP Tryz.f102 [.b false,.b false,.ret [(false,[.s .own () 1 ((ag x0 (45:Int)).map etS)])],.row (etS g0),.ret [(false,[tI ((aa g0).1)]),(false,[tB true])],.val (.int .i64 ((ag x0 (45:Int)).length:Int)),.b true,.row (etS g1),.ret [(false,[tI ((aa g1).1)]),(false,[tB true])],.val (.int .i64 ((ag x0 (45:Int)).length:Int)),.b true,.b true,.b false] (AC h0<|AC h1<|AD (aK x0 (45:Int) h2 h3)<|AG etS h4<|AD (ao g0 h5)<|ALn (ag x0 (45:Int)) etS<|AC h6<|AG etS h7<|AD (ao g1 h8)<|ALn (ag x0 (45:Int)) etS<|AC h9<|AC h10<|AC h11<|AN))
       ·exact Ib (DP Tryz.f102 [.b false,.b false,.ret [(false,[.s .own () 1 ((ag x0 (45:Int)).map etS)])],.row (etS g0),.ret [(false,[tI ((aa g0).1)]),(false,[tB true])],.val (.int .i64 ((ag x0 (45:Int)).length:Int)),.b true,.row (etS g1),.ret [(false,[tI ((aa g1).1)]),(false,[tB true])],.val (.int .i64 ((ag x0 (45:Int)).length:Int)),.b true,.b false] (AC h0<|AC h1<|AD (aK x0 (45:Int) h2 h3)<|AG etS h4<|AD (ao g0 h5)<|ALn (ag x0 (45:Int)) etS<|AC h6<|AG etS h7<|AD (ao g1 h8)<|ALn (ag x0 (45:Int)) etS<|AC h9<|AC h10<|AN))
      ·exact Ib (DP Tryz.f102 [.b false,.b false,.ret [(false,[.s .own () 1 ((ag x0 (45:Int)).map etS)])],.row (etS g0),.ret [(false,[tI ((aa g0).1)]),(false,[tB true])],.val (.int .i64 ((ag x0 (45:Int)).length:Int)),.b true,.row (etS g1),.ret [(false,[tI ((aa g1).1)]),(false,[tB true])],.val (.int .i64 ((ag x0 (45:Int)).length:Int)),.b false] (AC h0<|AC h1<|AD (aK x0 (45:Int) h2 h3)<|AG etS h4<|AD (ao g0 h5)<|ALn (ag x0 (45:Int)) etS<|AC h6<|AG etS h7<|AD (ao g1 h8)<|ALn (ag x0 (45:Int)) etS<|AC h9<|AN))
     ·exact Ib (DP Tryz.f102 [.b false,.b false,.ret [(false,[.s .own () 1 ((ag x0 (45:Int)).map etS)])],.row (etS g0),.ret [(false,[tI ((aa g0).1)]),(false,[tB true])],.val (.int .i64 ((ag x0 (45:Int)).length:Int)),.b true,.row (etS g1),.ret [(false,[tI ((aa g1).1)]),(false,[tB false])]] (AC h0<|AC h1<|AD (aK x0 (45:Int) h2 h3)<|AG etS h4<|AD (ao g0 h5)<|ALn (ag x0 (45:Int)) etS<|AC h6<|AG etS h7<|AD (ao g1 h8)<|AN))
    ·apply Ie<;>intro h7
     ·apply Ie<;>intro h8
      ·apply Ie<;>intro h9
       ·exact Ib (DP Tryz.f102 [.b false,.b false,.ret [(false,[.s .own () 1 ((ag x0 (45:Int)).map etS)])],.row (etS g0),.ret [(false,[tI ((aa g0).1)]),(false,[tB true])],.val (.int .i64 ((ag x0 (45:Int)).length:Int)),.b false,.val (.int .i64 ((ag x0 (45:Int)).length:Int)),.b true,.b true,.b true] (AC h0<|AC h1<|AD (aK x0 (45:Int) h2 h3)<|AG etS h4<|AD (ao g0 h5)<|ALn (ag x0 (45:Int)) etS<|AC h6<|ALn (ag x0 (45:Int)) etS<|AC h7<|AC h8<|AC h9<|AN))
       ·exact Ib (DP Tryz.f102 [.b false,.b false,.ret [(false,[.s .own () 1 ((ag x0 (45:Int)).map etS)])],.row (etS g0),.ret [(false,[tI ((aa g0).1)]),(false,[tB true])],.val (.int .i64 ((ag x0 (45:Int)).length:Int)),.b false,.val (.int .i64 ((ag x0 (45:Int)).length:Int)),.b true,.b true,.b false] (AC h0<|AC h1<|AD (aK x0 (45:Int) h2 h3)<|AG etS h4<|AD (ao g0 h5)<|ALn (ag x0 (45:Int)) etS<|AC h6<|ALn (ag x0 (45:Int)) etS<|AC h7<|AC h8<|AC h9<|AN))
      ·exact Ib (DP Tryz.f102 [.b false,.b false,.ret [(false,[.s .own () 1 ((ag x0 (45:Int)).map etS)])],.row (etS g0),.ret [(false,[tI ((aa g0).1)]),(false,[tB true])],.val (.int .i64 ((ag x0 (45:Int)).length:Int)),.b false,.val (.int .i64 ((ag x0 (45:Int)).length:Int)),.b true,.b false] (AC h0<|AC h1<|AD (aK x0 (45:Int) h2 h3)<|AG etS h4<|AD (ao g0 h5)<|ALn (ag x0 (45:Int)) etS<|AC h6<|ALn (ag x0 (45:Int)) etS<|AC h7<|AC h8<|AN))
     ·exact Ib (DP Tryz.f102 [.b false,.b false,.ret [(false,[.s .own () 1 ((ag x0 (45:Int)).map etS)])],.row (etS g0),.ret [(false,[tI ((aa g0).1)]),(false,[tB true])],.val (.int .i64 ((ag x0 (45:Int)).length:Int)),.b false,.val (.int .i64 ((ag x0 (45:Int)).length:Int)),.b false] (AC h0<|AC h1<|AD (aK x0 (45:Int) h2 h3)<|AG etS h4<|AD (ao g0 h5)<|ALn (ag x0 (45:Int)) etS<|AC h6<|ALn (ag x0 (45:Int)) etS<|AC h7<|AN))
   ·apply Ie<;>intro h6
    ·refine If (fun g1 h7 => ?_)
     exact Ib (DP Tryz.f102 [.b false,.b false,.ret [(false,[.s .own () 1 ((ag x0 (45:Int)).map etS)])],.row (etS g0),.ret [(false,[tI ((aa g0).1)]),(false,[tB false])],.val (.int .i64 ((ag x0 (45:Int)).length:Int)),.b true,.row (etS g1),.ret [(false,[tI ((aa g1).1)]),(false,[tB ((aa g1).2)])]] (AC h0<|AC h1<|AD (aK x0 (45:Int) h2 h3)<|AG etS h4<|AD (ao g0 h5)<|ALn (ag x0 (45:Int)) etS<|AC h6<|AG etS h7<|AD (kq g1)<|AN))
    ·exact Ib (DP Tryz.f102 [.b false,.b false,.ret [(false,[.s .own () 1 ((ag x0 (45:Int)).map etS)])],.row (etS g0),.ret [(false,[tI ((aa g0).1)]),(false,[tB false])],.val (.int .i64 ((ag x0 (45:Int)).length:Int)),.b false] (AC h0<|AC h1<|AD (aK x0 (45:Int) h2 h3)<|AG etS h4<|AD (ao g0 h5)<|ALn (ag x0 (45:Int)) etS<|AC h6<|AN))
noncomputable def jx (x0:ByteArray) (x1 x2:Int):Option (Int×Int×Int×Bool) :=
  cond (x0.toList==(⟨#[42]⟩:ByteArray).toList)
   (some (x1,x2,(1:Int),true))
   (cond ((bj x0 (⟨#[42,47]⟩:ByteArray)).2)
    (cond ((aa ((bj x0 (⟨#[42,47]⟩:ByteArray)).1)).2)
     (some (x1,x2,(aa ((bj x0 (⟨#[42,47]⟩:ByteArray)).1)).1,decide (((aa ((bj x0 (⟨#[42,47]⟩:ByteArray)).1)).1)≥(1:Int))))
     (some (x1,x2,(aa ((bj x0 (⟨#[42,47]⟩:ByteArray)).1)).1,false)))
    (if x0.size<4294967281 then cond ((ay x0 (⟨#[45]⟩:ByteArray)).2.2)
     (cond ((aa ((ay x0 (⟨#[45]⟩:ByteArray)).1)).2)
      (cond ((aa ((ay x0 (⟨#[45]⟩:ByteArray)).2.1)).2)
       (cond (decide (((aa ((ay x0 (⟨#[45]⟩:ByteArray)).1)).1)≥x1))
        (cond (decide (((aa ((ay x0 (⟨#[45]⟩:ByteArray)).1)).1)≤((aa ((ay x0 (⟨#[45]⟩:ByteArray)).2.1)).1)))
         (some ((aa ((ay x0 (⟨#[45]⟩:ByteArray)).1)).1,(aa ((ay x0 (⟨#[45]⟩:ByteArray)).2.1)).1,(1:Int),decide (((aa ((ay x0 (⟨#[45]⟩:ByteArray)).2.1)).1)≤x2)))
         (some ((aa ((ay x0 (⟨#[45]⟩:ByteArray)).1)).1,(aa ((ay x0 (⟨#[45]⟩:ByteArray)).2.1)).1,(1:Int),false)))
        (some ((aa ((ay x0 (⟨#[45]⟩:ByteArray)).1)).1,(aa ((ay x0 (⟨#[45]⟩:ByteArray)).2.1)).1,(1:Int),false)))
       (some ((aa ((ay x0 (⟨#[45]⟩:ByteArray)).1)).1,(aa ((ay x0 (⟨#[45]⟩:ByteArray)).2.1)).1,(1:Int),false)))
      (some ((aa ((ay x0 (⟨#[45]⟩:ByteArray)).1)).1,(aa ((ay x0 (⟨#[45]⟩:ByteArray)).2.1)).1,(1:Int),false)))
     (cond ((aa ((ay x0 (⟨#[45]⟩:ByteArray)).1)).2)
      (cond (decide (((aa ((ay x0 (⟨#[45]⟩:ByteArray)).1)).1)≥x1))
       (cond (decide (((aa ((ay x0 (⟨#[45]⟩:ByteArray)).1)).1)≤((aa ((ay x0 (⟨#[45]⟩:ByteArray)).1)).1)))
        (some ((aa ((ay x0 (⟨#[45]⟩:ByteArray)).1)).1,(aa ((ay x0 (⟨#[45]⟩:ByteArray)).1)).1,(1:Int),decide (((aa ((ay x0 (⟨#[45]⟩:ByteArray)).1)).1)≤x2)))
        (some ((aa ((ay x0 (⟨#[45]⟩:ByteArray)).1)).1,(aa ((ay x0 (⟨#[45]⟩:ByteArray)).1)).1,(1:Int),false)))
       (some ((aa ((ay x0 (⟨#[45]⟩:ByteArray)).1)).1,(aa ((ay x0 (⟨#[45]⟩:ByteArray)).1)).1,(1:Int),false)))
      (some ((aa ((ay x0 (⟨#[45]⟩:ByteArray)).1)).1,(aa ((ay x0 (⟨#[45]⟩:ByteArray)).1)).1,(1:Int),false))) else none))
theorem Ai (x0:ByteArray) (x1 x2:Int):Ans (jx x0 x1 x2) (fun r=>Does E 109 [.one (tS x0),.one (tI x1),.one (tI x2)] [(false,[tI r.1]),(false,[tI r.2.1]),(false,[tI r.2.2.1]),(false,[tB r.2.2.2])]):=by
 unfold jx
 apply Ie<;>intro h0
 ·exact Ib (DP Tryz.f109 [.b true] (AC h0<|AN))
 ·apply Ie<;>intro h1
  ·apply Ie<;>intro h2
   ·exact Ib (DP Tryz.f109 [.b false,.ret [(false,[tS ((bj x0 (⟨#[42,47]⟩:ByteArray)).1)]),(false,[tB true])],.ret [(false,[tI ((aa ((bj x0 (⟨#[42,47]⟩:ByteArray)).1)).1)]),(false,[tB true])]] (AC h0<|AD (Ih (rs':=[(false,[tS ((bj x0 (⟨#[42,47]⟩:ByteArray)).1)]),(false,[tB true])]) (bf x0 (⟨#[42,47]⟩:ByteArray)) (by rw [h1]))<|AD (aU ((bj x0 (⟨#[42,47]⟩:ByteArray)).1) h2)<|AN))
   ·exact Ib (DP Tryz.f109 [.b false,.ret [(false,[tS ((bj x0 (⟨#[42,47]⟩:ByteArray)).1)]),(false,[tB true])],.ret [(false,[tI ((aa ((bj x0 (⟨#[42,47]⟩:ByteArray)).1)).1)]),(false,[tB false])]] (AC h0<|AD (Ih (rs':=[(false,[tS ((bj x0 (⟨#[42,47]⟩:ByteArray)).1)]),(false,[tB true])]) (bf x0 (⟨#[42,47]⟩:ByteArray)) (by rw [h1]))<|AD (aU ((bj x0 (⟨#[42,47]⟩:ByteArray)).1) h2)<|AN))
  ·refine Ig (fun h2 => ?_)
   apply Ie<;>intro h3
   ·apply Ie<;>intro h4
    ·apply Ie<;>intro h5
     ·apply Ie<;>intro h6
      ·apply Ie<;>intro h7
       ·exact Ib (DP Tryz.f109 [.b false,.ret [(false,[tS ((bj x0 (⟨#[42,47]⟩:ByteArray)).1)]),(false,[tB false])],.ret [(false,[tS ((ay x0 (⟨#[45]⟩:ByteArray)).1)]),(false,[tS ((ay x0 (⟨#[45]⟩:ByteArray)).2.1)]),(false,[tB true])],.ret [(false,[tI ((aa ((ay x0 (⟨#[45]⟩:ByteArray)).1)).1)]),(false,[tB true])],.ret [(false,[tI ((aa ((ay x0 (⟨#[45]⟩:ByteArray)).2.1)).1)]),(false,[tB true])],.b true,.b true] (AC h0<|AD (Ih (rs':=[(false,[tS ((bj x0 (⟨#[42,47]⟩:ByteArray)).1)]),(false,[tB false])]) (bf x0 (⟨#[42,47]⟩:ByteArray)) (by rw [h1]))<|AD (Ih (rs':=[(false,[tS ((ay x0 (⟨#[45]⟩:ByteArray)).1)]),(false,[tS ((ay x0 (⟨#[45]⟩:ByteArray)).2.1)]),(false,[tB true])]) (da x0 (⟨#[45]⟩:ByteArray) h2) (by rw [h3]))<|AD (aU ((ay x0 (⟨#[45]⟩:ByteArray)).1) h4)<|AD (aU ((ay x0 (⟨#[45]⟩:ByteArray)).2.1) h5)<|AC h6<|AC h7<|AN))
       ·exact Ib (DP Tryz.f109 [.b false,.ret [(false,[tS ((bj x0 (⟨#[42,47]⟩:ByteArray)).1)]),(false,[tB false])],.ret [(false,[tS ((ay x0 (⟨#[45]⟩:ByteArray)).1)]),(false,[tS ((ay x0 (⟨#[45]⟩:ByteArray)).2.1)]),(false,[tB true])],.ret [(false,[tI ((aa ((ay x0 (⟨#[45]⟩:ByteArray)).1)).1)]),(false,[tB true])],.ret [(false,[tI ((aa ((ay x0 (⟨#[45]⟩:ByteArray)).2.1)).1)]),(false,[tB true])],.b true,.b false] (AC h0<|AD (Ih (rs':=[(false,[tS ((bj x0 (⟨#[42,47]⟩:ByteArray)).1)]),(false,[tB false])]) (bf x0 (⟨#[42,47]⟩:ByteArray)) (by rw [h1]))<|AD (Ih (rs':=[(false,[tS ((ay x0 (⟨#[45]⟩:ByteArray)).1)]),(false,[tS ((ay x0 (⟨#[45]⟩:ByteArray)).2.1)]),(false,[tB true])]) (da x0 (⟨#[45]⟩:ByteArray) h2) (by rw [h3]))<|AD (aU ((ay x0 (⟨#[45]⟩:ByteArray)).1) h4)<|AD (aU ((ay x0 (⟨#[45]⟩:ByteArray)).2.1) h5)<|AC h6<|AC h7<|AN))
      ·exact Ib (DP Tryz.f109 [.b false,.ret [(false,[tS ((bj x0 (⟨#[42,47]⟩:ByteArray)).1)]),(false,[tB false])],.ret [(false,[tS ((ay x0 (⟨#[45]⟩:ByteArray)).1)]),(false,[tS ((ay x0 (⟨#[45]⟩:ByteArray)).2.1)]),(false,[tB true])],.ret [(false,[tI ((aa ((ay x0 (⟨#[45]⟩:ByteArray)).1)).1)]),(false,[tB true])],.ret [(false,[tI ((aa ((ay x0 (⟨#[45]⟩:ByteArray)).2.1)).1)]),(false,[tB true])],.b false] (AC h0<|AD (Ih (rs':=[(false,[tS ((bj x0 (⟨#[42,47]⟩:ByteArray)).1)]),(false,[tB false])]) (bf x0 (⟨#[42,47]⟩:ByteArray)) (by rw [h1]))<|AD (Ih (rs':=[(false,[tS ((ay x0 (⟨#[45]⟩:ByteArray)).1)]),(false,[tS ((ay x0 (⟨#[45]⟩:ByteArray)).2.1)]),(false,[tB true])]) (da x0 (⟨#[45]⟩:ByteArray) h2) (by rw [h3]))<|AD (aU ((ay x0 (⟨#[45]⟩:ByteArray)).1) h4)<|AD (aU ((ay x0 (⟨#[45]⟩:ByteArray)).2.1) h5)<|AC h6<|AN))
     ·exact Ib (DP Tryz.f109 [.b false,.ret [(false,[tS ((bj x0 (⟨#[42,47]⟩:ByteArray)).1)]),(false,[tB false])],.ret [(false,[tS ((ay x0 (⟨#[45]⟩:ByteArray)).1)]),(false,[tS ((ay x0 (⟨#[45]⟩:ByteArray)).2.1)]),(false,[tB true])],.ret [(false,[tI ((aa ((ay x0 (⟨#[45]⟩:ByteArray)).1)).1)]),(false,[tB true])],.ret [(false,[tI ((aa ((ay x0 (⟨#[45]⟩:ByteArray)).2.1)).1)]),(false,[tB false])]] (AC h0<|AD (Ih (rs':=[(false,[tS ((bj x0 (⟨#[42,47]⟩:ByteArray)).1)]),(false,[tB false])]) (bf x0 (⟨#[42,47]⟩:ByteArray)) (by rw [h1]))<|AD (Ih (rs':=[(false,[tS ((ay x0 (⟨#[45]⟩:ByteArray)).1)]),(false,[tS ((ay x0 (⟨#[45]⟩:ByteArray)).2.1)]),(false,[tB true])]) (da x0 (⟨#[45]⟩:ByteArray) h2) (by rw [h3]))<|AD (aU ((ay x0 (⟨#[45]⟩:ByteArray)).1) h4)<|AD (aU ((ay x0 (⟨#[45]⟩:ByteArray)).2.1) h5)<|AN))
    ·exact Ib (DP Tryz.f109 [.b false,.ret [(false,[tS ((bj x0 (⟨#[42,47]⟩:ByteArray)).1)]),(false,[tB false])],.ret [(false,[tS ((ay x0 (⟨#[45]⟩:ByteArray)).1)]),(false,[tS ((ay x0 (⟨#[45]⟩:ByteArray)).2.1)]),(false,[tB true])],.ret [(false,[tI ((aa ((ay x0 (⟨#[45]⟩:ByteArray)).1)).1)]),(false,[tB false])],.ret [(false,[tI ((aa ((ay x0 (⟨#[45]⟩:ByteArray)).2.1)).1)]),(false,[tB ((aa ((ay x0 (⟨#[45]⟩:ByteArray)).2.1)).2)])]] (AC h0<|AD (Ih (rs':=[(false,[tS ((bj x0 (⟨#[42,47]⟩:ByteArray)).1)]),(false,[tB false])]) (bf x0 (⟨#[42,47]⟩:ByteArray)) (by rw [h1]))<|AD (Ih (rs':=[(false,[tS ((ay x0 (⟨#[45]⟩:ByteArray)).1)]),(false,[tS ((ay x0 (⟨#[45]⟩:ByteArray)).2.1)]),(false,[tB true])]) (da x0 (⟨#[45]⟩:ByteArray) h2) (by rw [h3]))<|AD (aU ((ay x0 (⟨#[45]⟩:ByteArray)).1) h4)<|AD (nA ((ay x0 (⟨#[45]⟩:ByteArray)).2.1))<|AN))
   ·apply Ie<;>intro h4
    ·apply Ie<;>intro h5
     ·apply Ie<;>intro h6
      ·exact Ib (DP Tryz.f109 [.b false,.ret [(false,[tS ((bj x0 (⟨#[42,47]⟩:ByteArray)).1)]),(false,[tB false])],.ret [(false,[tS ((ay x0 (⟨#[45]⟩:ByteArray)).1)]),(false,[tS ((ay x0 (⟨#[45]⟩:ByteArray)).2.1)]),(false,[tB false])],.ret [(false,[tI ((aa ((ay x0 (⟨#[45]⟩:ByteArray)).1)).1)]),(false,[tB true])],.b true,.b true] (AC h0<|AD (Ih (rs':=[(false,[tS ((bj x0 (⟨#[42,47]⟩:ByteArray)).1)]),(false,[tB false])]) (bf x0 (⟨#[42,47]⟩:ByteArray)) (by rw [h1]))<|AD (Ih (rs':=[(false,[tS ((ay x0 (⟨#[45]⟩:ByteArray)).1)]),(false,[tS ((ay x0 (⟨#[45]⟩:ByteArray)).2.1)]),(false,[tB false])]) (da x0 (⟨#[45]⟩:ByteArray) h2) (by rw [h3]))<|AD (aU ((ay x0 (⟨#[45]⟩:ByteArray)).1) h4)<|AC h5<|AC h6<|AN))
      ·exact Ib (DP Tryz.f109 [.b false,.ret [(false,[tS ((bj x0 (⟨#[42,47]⟩:ByteArray)).1)]),(false,[tB false])],.ret [(false,[tS ((ay x0 (⟨#[45]⟩:ByteArray)).1)]),(false,[tS ((ay x0 (⟨#[45]⟩:ByteArray)).2.1)]),(false,[tB false])],.ret [(false,[tI ((aa ((ay x0 (⟨#[45]⟩:ByteArray)).1)).1)]),(false,[tB true])],.b true,.b false] (AC h0<|AD (Ih (rs':=[(false,[tS ((bj x0 (⟨#[42,47]⟩:ByteArray)).1)]),(false,[tB false])]) (bf x0 (⟨#[42,47]⟩:ByteArray)) (by rw [h1]))<|AD (Ih (rs':=[(false,[tS ((ay x0 (⟨#[45]⟩:ByteArray)).1)]),(false,[tS ((ay x0 (⟨#[45]⟩:ByteArray)).2.1)]),(false,[tB false])]) (da x0 (⟨#[45]⟩:ByteArray) h2) (by rw [h3]))<|AD (aU ((ay x0 (⟨#[45]⟩:ByteArray)).1) h4)<|AC h5<|AC h6<|AN))
     ·exact Ib (DP Tryz.f109 [.b false,.ret [(false,[tS ((bj x0 (⟨#[42,47]⟩:ByteArray)).1)]),(false,[tB false])],.ret [(false,[tS ((ay x0 (⟨#[45]⟩:ByteArray)).1)]),(false,[tS ((ay x0 (⟨#[45]⟩:ByteArray)).2.1)]),(false,[tB false])],.ret [(false,[tI ((aa ((ay x0 (⟨#[45]⟩:ByteArray)).1)).1)]),(false,[tB true])],.b false] (AC h0<|AD (Ih (rs':=[(false,[tS ((bj x0 (⟨#[42,47]⟩:ByteArray)).1)]),(false,[tB false])]) (bf x0 (⟨#[42,47]⟩:ByteArray)) (by rw [h1]))<|AD (Ih (rs':=[(false,[tS ((ay x0 (⟨#[45]⟩:ByteArray)).1)]),(false,[tS ((ay x0 (⟨#[45]⟩:ByteArray)).2.1)]),(false,[tB false])]) (da x0 (⟨#[45]⟩:ByteArray) h2) (by rw [h3]))<|AD (aU ((ay x0 (⟨#[45]⟩:ByteArray)).1) h4)<|AC h5<|AN))
    ·exact Ib (DP Tryz.f109 [.b false,.ret [(false,[tS ((bj x0 (⟨#[42,47]⟩:ByteArray)).1)]),(false,[tB false])],.ret [(false,[tS ((ay x0 (⟨#[45]⟩:ByteArray)).1)]),(false,[tS ((ay x0 (⟨#[45]⟩:ByteArray)).2.1)]),(false,[tB false])],.ret [(false,[tI ((aa ((ay x0 (⟨#[45]⟩:ByteArray)).1)).1)]),(false,[tB false])]] (AC h0<|AD (Ih (rs':=[(false,[tS ((bj x0 (⟨#[42,47]⟩:ByteArray)).1)]),(false,[tB false])]) (bf x0 (⟨#[42,47]⟩:ByteArray)) (by rw [h1]))<|AD (Ih (rs':=[(false,[tS ((ay x0 (⟨#[45]⟩:ByteArray)).1)]),(false,[tS ((ay x0 (⟨#[45]⟩:ByteArray)).2.1)]),(false,[tB false])]) (da x0 (⟨#[45]⟩:ByteArray) h2) (by rw [h3]))<|AD (aU ((ay x0 (⟨#[45]⟩:ByteArray)).1) h4)<|AN))
def qq (r:Int×Int×Int×Bool) (o:Option (Int×Int×Int)):Prop :=
 match o with | some (a,b,c)=>r=(a,b,c,true) | none=>r.2.2.2=false
noncomputable def oT (ps:List (List UInt8)) (lo hi:Int):Option (Int×Int×Int) :=
 match ps with
 | [p]=>if (aa (ofTx p)).2=true∧lo≤(aa (ofTx p)).1∧(aa (ofTx p)).1≤hi then some ((aa (ofTx p)).1,(aa (ofTx p)).1,1) else none
 | [p,q]=>if (aa (ofTx p)).2=true∧(aa (ofTx q)).2=true∧lo≤(aa (ofTx p)).1∧(aa (ofTx p)).1≤(aa (ofTx q)).1∧(aa (ofTx q)).1≤hi then some ((aa (ofTx p)).1,(aa (ofTx q)).1,1) else none
 | _=>none
theorem tj (p:List UInt8) (lo hi:Int):oT [p] lo hi=if (aa (ofTx p)).2=true∧lo≤(aa (ofTx p)).1∧(aa (ofTx p)).1≤hi then some ((aa (ofTx p)).1,(aa (ofTx p)).1,1) else none:=rfl
theorem yM (p q:List UInt8) (lo hi:Int):oT [p,q] lo hi=if (aa (ofTx p)).2=true∧(aa (ofTx q)).2=true∧lo≤(aa (ofTx p)).1∧(aa (ofTx p)).1≤(aa (ofTx q)).1∧(aa (ofTx q)).1≤hi then some ((aa (ofTx p)).1,(aa (ofTx q)).1,1) else none:=rfl
theorem yN (p q r:List UInt8) (l:List (List UInt8)) (lo hi:Int):oT (p::q::r::l) lo hi=none:=rfl
noncomputable def pD (s:ByteArray) (lo hi:Int):Option (Int×Int×Int) :=
 if tx s=[42] then some (lo,hi,1)
 else if [42,47].isPrefixOf (tx s)=true then
  (if (aa (ofTx ((tx s).drop 2))).2=true∧1≤(aa (ofTx ((tx s).drop 2))).1 then some (lo,hi,(aa (ofTx ((tx s).drop 2))).1) else none)
 else oT (bo 45 (tx s)) lo hi
noncomputable def cg (s:ByteArray) (lo hi:Int):Int×Int×Int×Bool:=(iI s lo hi).getD (0,0,0,false)
noncomputable def cf (s:ByteArray) (lo hi:Int):Int×Int×Int×Bool:=(jx s lo hi).getD (0,0,0,false)
theorem yO {o:Option (Int×Int×Int×Bool)} {p:Option (Int×Int×Int)} {d:Int×Int×Int×Bool} (h:∃ r,o=some r∧qq r p):o=some (o.getD d)∧qq (o.getD d) p:=by
 obtain ⟨r,rfl,h⟩:=h
 exact ⟨rfl,h⟩
theorem Ds (L:List ByteArray) (ps:List (List UInt8)) (hL:L=ps.map ofTx) (lo hi:Int) (hne:∃ x xs,ps=x::xs) :
  ∃ r,((aL L (0:Int)).bind fun g0=>cond ((aa g0).2)
     (cond ((L.length:Int)==(2:Int))
      ((aL L (1:Int)).bind fun g1=>cond ((aa g1).2)
       (cond (decide ((L.length:Int)≤(2:Int)))
        (cond (decide (lo≤((aa g0).1)))
         (cond (decide (((aa g0).1)≤((aa g1).1)))
          (some ((aa g0).1,(aa g1).1,(1:Int),decide (((aa g1).1)≤hi)))
          (some ((aa g0).1,(aa g1).1,(1:Int),false)))
         (some ((aa g0).1,(aa g1).1,(1:Int),false)))
        (some ((aa g0).1,(aa g1).1,(1:Int),false)))
       (some ((aa g0).1,(aa g1).1,(1:Int),false)))
      (cond (decide ((L.length:Int)≤(2:Int)))
       (cond (decide (lo≤((aa g0).1)))
        (cond (decide (((aa g0).1)≤((aa g0).1)))
         (some ((aa g0).1,(aa g0).1,(1:Int),decide (((aa g0).1)≤hi)))
         (some ((aa g0).1,(aa g0).1,(1:Int),false)))
        (some ((aa g0).1,(aa g0).1,(1:Int),false)))
       (some ((aa g0).1,(aa g0).1,(1:Int),false))))
     (cond ((L.length:Int)==(2:Int))
      ((aL L (1:Int)).bind fun g1=>some ((aa g0).1,(aa g1).1,(1:Int),false))
      (some ((aa g0).1,(aa g0).1,(1:Int),false))))=some r∧qq r (oT ps lo hi):=by
 subst hL
 match ps,hne with
 | [p],_ =>
  have g0:aL ([p].map ofTx) 0=some (ofTx p):=rfl
  have e1:((([p].map ofTx).length:Int)==2)=false:=rfl
  have e2:decide ((([p].map ofTx).length:Int)≤2)=true:=rfl
  rw [g0,e1,e2,tj,Option.bind_some]
  simp only [cond_true,cond_false]
  generalize aa (ofTx p)=a
  obtain ⟨a,b⟩:=a
  cases b with
  | false=>exact ⟨_,rfl,by rw [if_neg (by simp)];exact rfl⟩
  | true =>
   rw [cond_true]
   by_cases h1:lo≤a
   ·rw [decide_eq_true h1,cond_true,decide_eq_true (Int.le_refl _),cond_true]
    refine ⟨_,rfl,?_⟩
    by_cases h2:a≤hi
    ·rw [decide_eq_true h2,if_pos ⟨rfl,h1,h2⟩];exact rfl
    ·rw [decide_eq_false h2,if_neg (fun h=>h2 h.2.2)];exact rfl
   ·rw [decide_eq_false h1]
    exact ⟨_,rfl,by rw [if_neg (fun h=>h1 h.2.1)];exact rfl⟩
 | [p,q],_ =>
  have g0:aL ([p,q].map ofTx) 0=some (ofTx p):=rfl
  have g1:aL ([p,q].map ofTx) 1=some (ofTx q):=rfl
  have e1:((([p,q].map ofTx).length:Int)==2)=true:=rfl
  have e2:decide ((([p,q].map ofTx).length:Int)≤2)=true:=rfl
  rw [g0,g1,e1,e2,yM,Option.bind_some,Option.bind_some]
  simp only [cond_true,cond_false]
  generalize aa (ofTx p)=a
  generalize aa (ofTx q)=c
  obtain ⟨a,b⟩:=a
  obtain ⟨c,d⟩:=c
  cases b with
  | false=>exact ⟨_,rfl,by rw [if_neg (by simp)];exact rfl⟩
  | true =>
   cases d with
   | false=>exact ⟨_,rfl,by rw [if_neg (by simp)];exact rfl⟩
   | true =>
    rw [cond_true,cond_true]
    by_cases h1:lo≤a
    ·rw [decide_eq_true h1,cond_true]
     by_cases h3:a≤c
     ·rw [decide_eq_true h3,cond_true]
      refine ⟨_,rfl,?_⟩
      by_cases h2:c≤hi
      ·rw [decide_eq_true h2,if_pos ⟨rfl,rfl,h1,h3,h2⟩];exact rfl
      ·rw [decide_eq_false h2,if_neg (fun h=>h2 h.2.2.2.2)];exact rfl
     ·rw [decide_eq_false h3]
      exact ⟨_,rfl,by rw [if_neg (fun h=>h3 h.2.2.2.1)];exact rfl⟩
    ·rw [decide_eq_false h1]
     exact ⟨_,rfl,by rw [if_neg (fun h=>h1 h.2.2.1)];exact rfl⟩
 | p::q::t::ps,_ =>
  have e1:((((p::q::t::ps).map ofTx).length:Int)==2)=false:=by rw [beq_eq_false_iff_ne];simp;omega
  have e2:decide ((((p::q::t::ps).map ofTx).length:Int)≤2)=false:=decide_eq_false (by simp;omega)
  rw [e1,e2,yN]
  have g0:aL ((p::q::t::ps).map ofTx) 0=some (ofTx p):=rfl
  rw [g0,Option.bind_some]
  cases (aa (ofTx p)).2 with
  | false=>exact ⟨_,rfl,rfl⟩
  | true=>exact ⟨_,rfl,rfl⟩
theorem wa (s:ByteArray) (lo hi:Int) (hs:s.size≤2000000):iI s lo hi=some (cg s lo hi)∧qq (cg s lo hi) (pD s lo hi):=by
 refine yO ?_
 unfold iI pD
 have e42:tx (⟨#[42]⟩:ByteArray)=[42]:=rfl
 have e4247:tx (⟨#[42,47]⟩:ByteArray)=[42,47]:=rfl
 rw [mR,e42]
 by_cases h:tx s=[42]
 ·rw [decide_eq_true h,if_pos h];exact ⟨_,rfl,rfl⟩
 ·have hp:(s.size≤2000000)=True:=eq_true hs
  have hc:((0:Int)≤45∧(45:Int)<256)=True:=eq_true (by decide)
  have hL:ag s 45=(bo 45 (tx s)).map ofTx:=rfl
  have tl:=Ds (ag s 45) (bo 45 (tx s)) hL lo hi (fh _ _)
  rw [decide_eq_false h,if_neg h,cond_false]
  simp only [hp,hc,if_true]
  have hz:=br s
  by_cases h2:2<s.size
  ·rw [decide_eq_true (by omega),cond_true,if_pos (by omega),mR,e4247,uJ]
   have hpre:[42,47].isPrefixOf (tx s)=decide (seg (tx s) (0:Int).toNat (2:Int).toNat=[42,47]):=by
    obtain ⟨a,b,l,e⟩:∃ a b l,tx s=a::b::l:=by
     cases q:tx s with
     | nil=>rw [q] at hz;have:s.size=0:=hz;omega
     | cons a l =>
      cases l with
      | nil=>rw [q] at hz;have:s.size=1:=hz;omega
      | cons b l=>exact ⟨a,b,l,rfl⟩
    have:seg (a::b::l) (0:Int).toNat (2:Int).toNat=[a,b]:=by simp [seg]
    have sw:∀ x y:UInt8,(x==y)=decide (y=x):=fun x y=>by
     by_cases h:y=x
     ·subst h;simp
     ·rw [decide_eq_false h,beq_eq_false_iff_ne];exact fun e=>h e.symm
    rw [e,this]
    simp [List.isPrefixOf,sw]
   rw [hpre]
   have hx:s.extract (2:Int).toNat (s.size:Int).toNat=ofTx ((tx s).drop 2):=by
    rw [jt]
    unfold seg
    rw [List.take_of_length_le (by omega)];rfl
   by_cases q:seg (tx s) (0:Int).toNat (2:Int).toNat=[42,47]
   ·rw [decide_eq_true q,cond_true,if_pos rfl,if_pos (by omega),hx]
    generalize aa (ofTx ((tx s).drop 2))=a
    obtain ⟨a,b⟩:=a
    cases b with
    | false=>exact ⟨_,rfl,by rw [if_neg (by simp)];exact rfl⟩
    | true =>
     refine ⟨_,rfl,?_⟩
     by_cases z:1≤a
     ·rw [decide_eq_true (show a≥1 from z),if_pos ⟨rfl,z⟩];exact rfl
     ·rw [decide_eq_false (show ¬ a≥1 from z),if_neg (fun h=>z h.2)];exact rfl
   ·rw [decide_eq_false q,cond_false,if_neg (by simp)]
    exact tl
  ·rw [decide_eq_false (by omega),cond_false]
   by_cases q:[42,47].isPrefixOf (tx s)=true
   ·rw [if_pos q]
    have e:tx s=[42,47]:=by
     cases w:tx s with
     | nil=>rw [w] at q;simp [List.isPrefixOf] at q
     | cons a l =>
      cases l with
      | nil=>rw [w] at q;simp [List.isPrefixOf] at q
      | cons b l =>
       cases l with
       | nil=>rw [w] at q;simp [List.isPrefixOf] at q;rw [← q.1, ← q.2]
       | cons c l=>rw [w] at hz;simp at hz;omega
    have hb:(aa (ofTx ((tx s).drop 2)))=(0,false):=by
     rw [e]
     show aa (ofTx [])=_
     unfold aa
     rw [if_neg (by decide)]
     have:¬ tx (af 0)=tx (ofTx []):=by
      unfold af Lib.itoa
      rw [if_neg (by omega),Lib.decDigits,dif_pos (by simp)]
      simp [tx,ofTx]
     show (if (1000000000:Int)<0 then _ else if _ then _ else _)=_
     rw [if_neg (by decide),if_neg this]
    rw [hb,if_neg (by simp)]
    obtain ⟨r,h1,h2⟩:=tl
    refine ⟨r,h1,?_⟩
    rw [e] at h2
    have hcut:bo 45 ([42,47]:List UInt8)=[[42,47]]:=oz (by decide)
    rw [hcut,tj] at h2
    have hb2:aa (ofTx [42,47])=(0,false):=sL (b:=42) (by rw [hU];simp) (by decide)
    simp only [hb2] at h2
    rw [if_neg (by simp)] at h2
    exact h2
   ·rw [if_neg q]
    exact tl
theorem vZ (s:ByteArray) (lo hi:Int) (hs:s.size≤2000000):jx s lo hi=some (cf s lo hi)∧qq (cf s lo hi) (pD s lo hi):=by
 refine yO ?_
 unfold jx pD
 have e42:tx (⟨#[42]⟩:ByteArray)=[42]:=rfl
 rw [mR,e42]
 by_cases h:tx s=[42]
 ·rw [decide_eq_true h,if_pos h];exact ⟨_,rfl,rfl⟩
 ·rw [decide_eq_false h,if_neg h,cond_false]
  have hp2:(bj s (⟨#[42,47]⟩:ByteArray)).2=[42,47].isPrefixOf (tx s):=rfl
  rw [hp2]
  by_cases q:[42,47].isPrefixOf (tx s)=true
  ·have hp1:(bj s (⟨#[42,47]⟩:ByteArray)).1=ofTx ((tx s).drop 2):=by
    show ofTx (Lib.trimPrefix (tx s) [42,47])=_
    unfold Lib.trimPrefix Lib.hasPrefix
    rw [if_pos q];rfl
   rw [q,cond_true,if_pos rfl,hp1]
   generalize aa (ofTx ((tx s).drop 2))=a
   obtain ⟨a,b⟩:=a
   cases b with
   | false=>exact ⟨_,rfl,by rw [if_neg (by simp)];exact rfl⟩
   | true =>
    refine ⟨_,rfl,?_⟩
    by_cases z:1≤a
    ·rw [decide_eq_true (show a≥1 from z),if_pos ⟨rfl,z⟩];exact rfl
    ·rw [decide_eq_false (show ¬ a≥1 from z),if_neg (fun h=>z h.2)];exact rfl
  ·rw [if_neg q]
   rw [Bool.not_eq_true] at q
   rw [q,cond_false,if_pos (by omega)]
   rcases xD (tx s) 45 with ⟨h1,h2,h3⟩ | ⟨a,b,h1,h2,h3,h4⟩
   ·have c1:ay s (⟨#[45]⟩:ByteArray)=(s,ofTx [],false):=by
     show (ofTx (Lib.cut (tx s) [45]).1,ofTx (Lib.cut (tx s) [45]).2.1,(Lib.cut (tx s) [45]).2.2)=_
     rw [h2];rfl
    rw [c1,h3,tj]
    simp only [cond_false]
    rw [oR]
    generalize aa s=a
    obtain ⟨a,b⟩:=a
    cases b with
    | false=>exact ⟨_,rfl,by rw [if_neg (by simp)];exact rfl⟩
    | true =>
     rw [cond_true]
     by_cases h1:lo≤a
     ·rw [decide_eq_true (show a≥lo from h1),cond_true,decide_eq_true (Int.le_refl _),cond_true]
      refine ⟨_,rfl,?_⟩
      by_cases h2:a≤hi
      ·rw [decide_eq_true h2,if_pos ⟨rfl,h1,h2⟩];exact rfl
      ·rw [decide_eq_false h2,if_neg (fun h=>h2 h.2.2)];exact rfl
     ·rw [decide_eq_false (show ¬ a≥lo from h1)]
      exact ⟨_,rfl,by rw [if_neg (fun h=>h1 h.2.1)];exact rfl⟩
   ·have c1:ay s (⟨#[45]⟩:ByteArray)=(ofTx a,ofTx b,true):=by
     show (ofTx (Lib.cut (tx s) [45]).1,ofTx (Lib.cut (tx s) [45]).2.1,(Lib.cut (tx s) [45]).2.2)=_
     rw [h3]
    rw [c1,h4]
    simp only [cond_true]
    by_cases hb:(45:UInt8)∈b
    ·have hr:aa (ofTx b)=(0,false):=sL (b:=45) (by rw [hU];exact hb) (by decide)
     have hm:∃ x y z,bo 45 b=x::y::z:=by
      rcases xD b 45 with ⟨g,_⟩ | ⟨c,d,_,_,_,g⟩
      ·exact absurd hb g
      ·obtain ⟨y,z,e⟩:=fh 45 d
       exact ⟨c,y,z,by rw [g,e]⟩
     obtain ⟨x,y,z,e⟩:=hm
     rw [e,hr,yN]
     cases (aa (ofTx a)).2 with
     | false=>exact ⟨_,rfl,rfl⟩
     | true=>exact ⟨_,rfl,rfl⟩
    ·rw [oz hb,yM]
     generalize aa (ofTx a)=a
     generalize aa (ofTx b)=c
     obtain ⟨a,b⟩:=a
     obtain ⟨c,d⟩:=c
     cases b with
     | false=>exact ⟨_,rfl,by rw [if_neg (by simp)];exact rfl⟩
     | true =>
      cases d with
      | false=>exact ⟨_,rfl,by rw [if_neg (by simp)];exact rfl⟩
      | true =>
       rw [cond_true,cond_true]
       by_cases h1:lo≤a
       ·rw [decide_eq_true (show a≥lo from h1),cond_true]
        by_cases h3:a≤c
        ·rw [decide_eq_true h3,cond_true]
         refine ⟨_,rfl,?_⟩
         by_cases h2:c≤hi
         ·rw [decide_eq_true h2,if_pos ⟨rfl,rfl,h1,h3,h2⟩];exact rfl
         ·rw [decide_eq_false h2,if_neg (fun h=>h2 h.2.2.2.2)];exact rfl
        ·rw [decide_eq_false h3]
         exact ⟨_,rfl,by rw [if_neg (fun h=>h3 h.2.2.2.1)];exact rfl⟩
       ·rw [decide_eq_false (show ¬ a≥lo from h1)]
        exact ⟨_,rfl,by rw [if_neg (fun h=>h1 h.2.2.1)];exact rfl⟩
theorem Ey {s:ByteArray} {lo hi a b c:Int} (hlo:lo≤hi) (h:pD s lo hi=some (a,b,c)):lo≤a∧a≤b∧b≤hi∧1≤c∧c≤1000000000:=by
 unfold pD at h
 split at h
 ·cases h;exact ⟨Int.le_refl _,hlo,Int.le_refl _,Int.le_refl _,by decide⟩
 ·split at h
  ·split at h
   ·rename_i z
    have:=Cf (ofTx ((tx s).drop 2))
    cases h
    exact ⟨Int.le_refl _,hlo,Int.le_refl _,z.2,this.2⟩
   ·cases h
  ·unfold oT at h
   split at h
   ·split at h
    ·rename_i z;cases h;exact ⟨z.2.1,Int.le_refl _,z.2.2,Int.le_refl _,by decide⟩
    ·cases h
   ·split at h
    ·rename_i z;cases h;exact ⟨z.2.2.1,z.2.2.2.1,z.2.2.2.2,Int.le_refl _,by decide⟩
    ·cases h
   ·cases h
theorem xp (x0:ByteArray) (x1:Int) (x2:Int) (h:x0.size≤2000000):Does E 102 [.one (tS x0),.one (tI x1),.one (tI x2)] [(false,[tI ((cg x0 x1 x2).1)]),(false,[tI ((cg x0 x1 x2).2.1)]),(false,[tI ((cg x0 x1 x2).2.2.1)]),(false,[tB ((cg x0 x1 x2).2.2.2)])]:=by
 exact zb x0 x1 x2 _ (wa x0 x1 x2 h).1
theorem ot (x0:ByteArray) (x1:Int) (x2:Int) (h:x0.size≤2000000) {bb:Bool} (hbb:(cg x0 x1 x2).2.2.2=bb):Does E 102 [.one (tS x0),.one (tI x1),.one (tI x2)] [(false,[tI ((cg x0 x1 x2).1)]),(false,[tI ((cg x0 x1 x2).2.1)]),(false,[tI ((cg x0 x1 x2).2.2.1)]),(false,[tB bb])]:=by rw [← hbb];exact xp x0 x1 x2 h
theorem zF (x0:ByteArray) (x1:Int) (x2:Int) (h:x0.size≤2000000):Does E 109 [.one (tS x0),.one (tI x1),.one (tI x2)] [(false,[tI ((cf x0 x1 x2).1)]),(false,[tI ((cf x0 x1 x2).2.1)]),(false,[tI ((cf x0 x1 x2).2.2.1)]),(false,[tB ((cf x0 x1 x2).2.2.2)])]:=by
 exact Ai x0 x1 x2 _ (vZ x0 x1 x2 h).1
theorem pR (x0:ByteArray) (x1:Int) (x2:Int) (h:x0.size≤2000000) {bb:Bool} (hbb:(cf x0 x1 x2).2.2.2=bb):Does E 109 [.one (tS x0),.one (tI x1),.one (tI x2)] [(false,[tI ((cf x0 x1 x2).1)]),(false,[tI ((cf x0 x1 x2).2.1)]),(false,[tI ((cf x0 x1 x2).2.2.1)]),(false,[tB bb])]:=by rw [← hbb];exact zF x0 x1 x2 h
noncomputable def iW (x0:Int):Option (Int×Int) :=
  cond (x0==(0:Int))
   (some ((0:Int),(59:Int)))
   (cond (x0==(1:Int))
    (some ((0:Int),(23:Int)))
    (cond (x0==(2:Int))
     (some ((1:Int),(31:Int)))
     (cond (x0==(3:Int))
      (some ((1:Int),(12:Int)))
      (some ((0:Int),(6:Int))))))
theorem BZ (x0:Int):Ans (iW x0) (fun r=>Does E 108 [.one (tI x0)] [(false,[tI r.1]),(false,[tI r.2])]):=by
 unfold iW
 apply Ie<;>intro h0
 ·exact Ib (DP Tryz.f108 [.b true] (AC h0<|AN))
 ·apply Ie<;>intro h1
  ·exact Ib (DP Tryz.f108 [.b false,.b true] (AC h0<|AC h1<|AN))
  ·apply Ie<;>intro h2
   ·exact Ib (DP Tryz.f108 [.b false,.b false,.b true] (AC h0<|AC h1<|AC h2<|AN))
   ·apply Ie<;>intro h3
    ·exact Ib (DP Tryz.f108 [.b false,.b false,.b false,.b true] (AC h0<|AC h1<|AC h2<|AC h3<|AN))
    ·exact Ib (DP Tryz.f108 [.b false,.b false,.b false,.b false] (AC h0<|AC h1<|AC h2<|AC h3<|AN))
noncomputable def aw (i:Int):Int×Int:=(iW i).getD (0,0)
theorem Bs (i:Int):iW i=some (aw i):=by
 refine Tot.getD ?_ _
 unfold iW
 repeat' (first | exact Tot.some _ | apply Tot.cond)
theorem Cz (i:Int):0≤(aw i).1∧(aw i).1≤(aw i).2∧(aw i).2≤59:=by
 unfold aw iW
 cases i==0<;>cases i==1<;>cases i==2<;>cases i==3<;>exact ⟨by decide,by decide,by decide⟩
theorem bC (x0:Int):Does E 108 [.one (tI x0)] [(false,[tI ((aw x0).1)]),(false,[tI ((aw x0).2)])]:=by
 exact BZ x0 _ (Bs x0)
inductive qf where
 | x4 (v16:List Int)
def fm (v2:Int) (v8:List Bool) (v16:List Int) (v17:Int):US:=stL 70 [(2,.one (tI v2)),(8,.one (.s .own () 1 (v8.map etB))),(16,.one (.s .own () 1 (v16.map etI))),(17,.one (tI v17))]
def kY (zv16:List Int):US:=stL 70 [(16,.one (.s .own () 1 (zv16.map etI)))]
abbrev ms:US→Exit→US→Prop:=Round E 77 (au Tryz.f77 2)
def wR (v2:Int) (v8:List Bool) (v16:List Int) (v17:Int):qf→Prop
 | .x4 zv16=>Loops E 77 (au Tryz.f77 2) (fm v2 v8 v16 v17) (.exit 4) (kY zv16)
noncomputable def dO (v2:Int) (v8:List Bool):Nat→(List Int)→Int→Option qf
 | 0,_,_=>none
 | n+1,v16,v17=>cond (decide (v17≤v2))
  ((aL v8 v17).bind fun g0=>cond (g0)
   (if (v16.length+([v17]).length)*8≤140737488355328∧v16.length+([v17]).length≤4611686018427387904 then dO v2 v8 n (v16++([v17])) (inc v17) else none)
   (dO v2 v8 n v16 (inc v17)))
  (some (.x4 v16))
theorem wO (v2:Int) (v8:List Bool) (n:Nat):∀ (v16:List Int) (v17:Int),Ans (dO v2 v8 n v16 v17) (wR v2 v8 v16 v17):=by
 induction n with
 | zero=>intros;exact Ans.none
 | succ n ih =>
  intro v16 v17
  unfold dO
  apply Ie<;>intro h0
  ·refine If (fun g0 h1 => ?_)
   apply Ie<;>intro h2
   ·refine Ig (fun h3 => ?_)
    have r:ms (fm v2 v8 v16 v17) .normal (fm v2 v8 (v16++([v17])) (inc v17)):=RP [.b true,.row ([tB true]),.rows ((v16++([v17])).map etI)] (AC h0<|AC (p:=0≤v17∧v17<((v8.map etB).length:Int)) (t8 h1)<|AC (p:=(v8.map etB)[0+v17.toNat]?=some ([tB true])) ((oH h1).trans (congrArg some (show [tB g0]=[tB true] by rw [h2])))<|AAp etI (fun _=>rfl) h3<|AN);exact (ih (v16++([v17])) (inc v17)).mono fun y hy=>by cases y<;>exact Ic r hy
   ·have r:ms (fm v2 v8 v16 v17) .normal (fm v2 v8 v16 (inc v17)):=RP [.b true,.row ([tB false])] (AC h0<|AC (p:=0≤v17∧v17<((v8.map etB).length:Int)) (t8 h1)<|AC (p:=(v8.map etB)[0+v17.toNat]?=some ([tB false])) ((oH h1).trans (congrArg some (show [tB g0]=[tB false] by rw [h2])))<|AN);exact (ih v16 (inc v17)).mono fun y hy=>by cases y<;>exact Ic r hy
  ·exact Ib (Id (show ms (fm v2 v8 v16 v17) (.exit 4) (kY v16) from RP [.b false] (AC h0<|AN)) (by intro h;cases h))
inductive qe where
 | x2 (v8:List Bool)
def jM (v1 v2:Int) (v8:List Bool) (v9:List ByteArray) (v10 v12 v13 v15:Int):US:=stL 70 [(1,.one (tI v1)),(2,.one (tI v2)),(8,.one (.s .own () 1 (v8.map etB))),(9,.one (.s .own () 1 (v9.map etS))),(10,.one (tI v10)),(12,.one (tI v12)),(13,.one (tI v13)),(15,.one (tI v15))]
def kX (v1 v2:Int) (v9:List ByteArray) (v10:Int) (zv8:List Bool):US:=stL 70 [(1,.one (tI v1)),(2,.one (tI v2)),(8,.one (.s .own () 1 (zv8.map etB))),(9,.one (.s .own () 1 (v9.map etS))),(10,.one (tI v10))]
abbrev qc:US→Exit→US→Prop:=Round E 77 (au Tryz.f77 1)
def wQ (v1 v2:Int) (v8:List Bool) (v9:List ByteArray) (v10 v12 v13 v15:Int):qe→Prop
 | .x2 zv8=>Loops E 77 (au Tryz.f77 1) (jM v1 v2 v8 v9 v10 v12 v13 v15) (.exit 2) (kX v1 v2 v9 v10 zv8)
noncomputable def fo (v12 v13:Int):Nat→(List Bool)→Int→Option qe
 | 0,_,_=>none
 | n+1,v8,v15=>cond (decide (v15≤v12))
  ((aL v8 v15).bind fun g0=>fo v12 v13 n (v8.set v15.toNat true) (IntKind.wrap .i64 (v15+v13)))
  (some (.x2 v8))
theorem wN (v1 v2:Int) (v9:List ByteArray) (v10 v12 v13:Int) (n:Nat):∀ (v8:List Bool) (v15:Int),Ans (fo v12 v13 n v8 v15) (wQ v1 v2 v8 v9 v10 v12 v13 v15):=by
 induction n with
 | zero=>intros;exact Ans.none
 | succ n ih =>
  intro v8 v15
  unfold fo
  apply Ie<;>intro h0
  ·refine If (fun g0 h1 => ?_)
   have r:qc (jM v1 v2 v8 v9 v10 v12 v13 v15) .normal (jM v1 v2 (v8.set v15.toNat true) v9 v10 v12 v13 (IntKind.wrap .i64 (v15+v13))):=RP [.b true,.row (etB g0),.rows ((v8.set v15.toNat true).map etB)] (AC h0<|AG etB h1<|AC (p:=(v8.map etB).set (0+v15.toNat) (ar (etB g0) 0 [tB true])=(v8.set v15.toNat true).map etB) (ge (by rfl))<|AN);exact (ih (v8.set v15.toNat true) (IntKind.wrap .i64 (v15+v13))).mono fun y hy=>by cases y<;>exact Ic r hy
  ·exact Ib (Id (show qc (jM v1 v2 v8 v9 v10 v12 v13 v15) (.exit 2) (kX v1 v2 v9 v10 v8) from RP [.b false] (AC h0<|AN)) (by intro h;cases h))
inductive qd where
 | ret (v6:List Int) (v7:Bool)
 | x0 (v8:List Bool)
def fk (v1 v2:Int) (v8:List Bool) (v9:List ByteArray) (v10:Int):US:=stL 70 [(1,.one (tI v1)),(2,.one (tI v2)),(8,.one (.s .own () 1 (v8.map etB))),(9,.one (.s .own () 1 (v9.map etS))),(10,.one (tI v10))]
def jZ (zv6:List Int) (zv7:Bool):US:=stL 70 [(6,.one (.s .own () 1 (zv6.map etI))),(7,.one (tB zv7))]
def kW (v1 v2:Int) (zv8:List Bool):US:=stL 70 [(1,.one (tI v1)),(2,.one (tI v2)),(8,.one (.s .own () 1 (zv8.map etB)))]
abbrev mr:US→Exit→US→Prop:=Round E 77 (au Tryz.f77 0)
def wP (v1 v2:Int) (v8:List Bool) (v9:List ByteArray) (v10:Int):qd→Prop
 | .ret zv6 zv7=>Loops E 77 (au Tryz.f77 0) (fk v1 v2 v8 v9 v10) .ret (jZ zv6 zv7)
 | .x0 zv8=>Loops E 77 (au Tryz.f77 0) (fk v1 v2 v8 v9 v10) (.exit 0) (kW v1 v2 zv8)
noncomputable def df (v1 v2:Int):List ByteArray→Nat→(List Bool)→Option qd
 | [],i,v8=>some (.x0 v8)
 | hd::rest,i,v8=>if hd.size≤2000000 then cond ((cg hd v1 v2).2.2.2)
  ((fo ((cg hd v1 v2).2.1) ((cg hd v1 v2).2.2.1) 9223372036854775808 v8 ((cg hd v1 v2).1)).bind fun y=>match y with
   | .x2 w0_8=>(df v1 v2 rest (i+1) w0_8))
  (some (.ret ([]) false)) else none
theorem wM (v1 v2:Int) (v9:List ByteArray) (rest:List ByteArray):∀ (i:Nat) (v8:List Bool),(v9).drop i=rest→v9.length≤9223372036854775807→Ans (df v1 v2 rest i v8) (wP v1 v2 v8 v9 (i:Int)):=by
 induction rest with
 | nil =>
  intro i v8 hE hl
  have hb:=bq hE
  unfold df
  exact Ib (Id (show mr (fk v1 v2 v8 v9 (i:Int)) (.exit 0) (kW v1 v2 v8) from RP [.val (.int .i64 (v9.length:Int)),.b false] (ALn v9 etS<|AC hb<|AN)) (by intro h;cases h))
 | cons hd rest ih =>
  intro i v8 hE hl
  have hb:=a8 hE
  have hw:=ba hE hl
  have hE2:=aG hE
  have hg:=bd hE
  unfold df
  refine Ig (fun h2 => ?_)
  apply Ie<;>intro h3
  ·refine If (fun y hy => ?_)
   replace hy:=wN v1 v2 v9 (i:Int) ((cg hd v1 v2).2.1) ((cg hd v1 v2).2.2.1) 9223372036854775808 v8 ((cg hd v1 v2).1) y hy
   cases y with
   | x2 w0_8 =>
    have h4:=hy
    exact (ih (i+1) w0_8 hE2 hl).mono fun y hy=>by have r:mr (fk v1 v2 v8 v9 (i:Int)) .normal (fk v1 v2 w0_8 v9 (inc (i:Int))):=RP [.val (.int .i64 (v9.length:Int)),.b true,.row (etS hd),.ret [(false,[tI ((cg hd v1 v2).1)]),(false,[tI ((cg hd v1 v2).2.1)]),(false,[tI ((cg hd v1 v2).2.2.1)]),(false,[tB true])],.lp (.exit 2) (kX v1 v2 v9 (i:Int) w0_8)] (ALn v9 etS<|AC hb<|AG etS hg<|AD (ot hd v1 v2 h2 h3)<|AL h4<|AN);rw [hw] at r;cases y<;>exact Ic r hy
  ·exact Ib (Id (show mr (fk v1 v2 v8 v9 (i:Int)) .ret (jZ ([]) false) from RP [.val (.int .i64 (v9.length:Int)),.b true,.row (etS hd),.ret [(false,[tI ((cg hd v1 v2).1)]),(false,[tI ((cg hd v1 v2).2.1)]),(false,[tI ((cg hd v1 v2).2.2.1)]),(false,[tB false])]] (ALn v9 etS<|AC hb<|AG etS hg<|AD (ot hd v1 v2 h2 h3)<|AN)) (by intro h;cases h))
noncomputable def fc (x0:ByteArray) (x1 x2:Int):Option ((List Int)×Bool) :=
  if 0≤(inc x2)∧(inc x2)≤(inc x2)∧((1:Nat):Int)*(inc x2)≤281474976710656∧(inc x2)≤4611686018427387904 then if x0.size≤2000000 then if 0≤(44:Int)∧(44:Int)<256 then if (ag x0 (44:Int)).length≤9223372036854775807 then (df x1 x2 (ag x0 (44:Int)) 0 (List.replicate (inc x2).toNat false)).bind fun y=>match y with
   | .ret w0_6 w0_7=>(some (w0_6,w0_7))
   | .x0 w0_8=>((dO x2 w0_8 9223372036854775808 ([]) x1).bind fun y=>match y with
    | .x4 w1_16=>(some (w1_16,true))) else none else none else none else none
theorem y8 (x0:ByteArray) (x1 x2:Int):Ans (fc x0 x1 x2) (fun r=>Does E 77 [.one (tS x0),.one (tI x1),.one (tI x2)] [(false,[.s .own () 1 (r.1.map etI)]),(false,[tB r.2])]):=by
 unfold fc
 refine Ig (fun h0 => ?_)
 refine Ig (fun h1 => ?_)
 refine Ig (fun h2 => ?_)
 refine Ig (fun hl1 => ?_)
 refine If (fun y hy => ?_)
 replace hy:=wM x1 x2 (ag x0 (44:Int)) (ag x0 (44:Int)) 0 (List.replicate (inc x2).toNat false) rfl hl1 y hy
 cases y with
 | ret w0_6 w0_7 =>
  have h3:=hy
  exact Ib (DP Tryz.f77 [.rows ((List.replicate (inc x2).toNat false).map etB),.ret [(false,[.s .own () 1 ((ag x0 (44:Int)).map etS)])],.lp .ret (jZ w0_6 w0_7)] (AC h0<|AC (p:=List.replicate (inc x2).toNat [tB false]=(List.replicate (inc x2).toNat false).map etB) (oU rfl)<|AD (aK x0 (44:Int) h1 h2)<|AL h3<|AN))
 | x0 w0_8 =>
  have h3:=hy
  refine If (fun y hy => ?_)
  replace hy:=wO x2 w0_8 9223372036854775808 ([]) x1 y hy
  cases y with
  | x4 w1_16 =>
   have h4:=hy
   exact Ib (DP Tryz.f77 [.rows ((List.replicate (inc x2).toNat false).map etB),.ret [(false,[.s .own () 1 ((ag x0 (44:Int)).map etS)])],.lp (.exit 0) (kW x1 x2 w0_8),.lp (.exit 4) (kY w1_16)] (AC h0<|AC (p:=List.replicate (inc x2).toNat [tB false]=(List.replicate (inc x2).toNat false).map etB) (oU rfl)<|AD (aK x0 (44:Int) h1 h2)<|AL h3<|AL h4<|AN))
inductive nL where
 | x2 (v8:List Int)
def ie (v6 v7:Int) (v8:List Int) (v12 v13 v15:Int) (v22:List ByteArray) (v23 v24:Int):US:=stL 56 [(6,.one (tI v6)),(7,.one (tI v7)),(8,.one (.s .own () 1 (v8.map etI))),(12,.one (tI v12)),(13,.one (tI v13)),(15,.one (tI v15)),(22,.one (.s .own () 1 (v22.map etS))),(23,.one (tI v23)),(24,.one (tI v24))]
def jm (v6 v7:Int) (v22:List ByteArray) (v23 v24:Int) (zv8:List Int):US:=stL 56 [(6,.one (tI v6)),(7,.one (tI v7)),(8,.one (.s .own () 1 (zv8.map etI))),(22,.one (.s .own () 1 (v22.map etS))),(23,.one (tI v23)),(24,.one (tI v24))]
abbrev nJ:US→Exit→US→Prop:=Round E 87 (au Tryz.f87 1)
def ul (v6 v7:Int) (v8:List Int) (v12 v13 v15:Int) (v22:List ByteArray) (v23 v24:Int):nL→Prop
 | .x2 zv8=>Loops E 87 (au Tryz.f87 1) (ie v6 v7 v8 v12 v13 v15 v22 v23 v24) (.exit 2) (jm v6 v7 v22 v23 v24 zv8)
noncomputable def ey (v12 v13:Int):Nat→(List Int)→Int→Option nL
 | 0,_,_=>none
 | n+1,v8,v15=>cond (decide (v15≤v12))
  (if (v8.length+([v15]).length)*8≤140737488355328∧v8.length+([v15]).length≤4611686018427387904 then ey v12 v13 n (v8++([v15])) (IntKind.wrap .i64 (v15+v13)) else none)
  (some (.x2 v8))
theorem uj (v6 v7 v12 v13:Int) (v22:List ByteArray) (v23 v24:Int) (n:Nat):∀ (v8:List Int) (v15:Int),Ans (ey v12 v13 n v8 v15) (ul v6 v7 v8 v12 v13 v15 v22 v23 v24):=by
 induction n with
 | zero=>intros;exact Ans.none
 | succ n ih =>
  intro v8 v15
  unfold ey
  apply Ie<;>intro h0
  ·refine Ig (fun h1 => ?_)
   have r:nJ (ie v6 v7 v8 v12 v13 v15 v22 v23 v24) .normal (ie v6 v7 (v8++([v15])) v12 v13 (IntKind.wrap .i64 (v15+v13)) v22 v23 v24):=RP [.b true,.rows ((v8++([v15])).map etI)] (AC h0<|AAp etI (fun _=>rfl) h1<|AN);exact (ih (v8++([v15])) (IntKind.wrap .i64 (v15+v13))).mono fun y hy=>by cases y<;>exact Ic r hy
  ·exact Ib (Id (show nJ (ie v6 v7 v8 v12 v13 v15 v22 v23 v24) (.exit 2) (jm v6 v7 v22 v23 v24 v8) from RP [.b false] (AC h0<|AN)) (by intro h;cases h))
inductive nK where
 | ret (v4:List Int) (v5:Bool)
 | x0 (v8:List Int)
def ex (v6 v7:Int) (v8:List Int) (v22:List ByteArray) (v23 v24:Int):US:=stL 56 [(6,.one (tI v6)),(7,.one (tI v7)),(8,.one (.s .own () 1 (v8.map etI))),(22,.one (.s .own () 1 (v22.map etS))),(23,.one (tI v23)),(24,.one (tI v24))]
def iy (zv4:List Int) (zv5:Bool):US:=stL 56 [(4,.one (.s .own () 1 (zv4.map etI))),(5,.one (tB zv5))]
def jl (zv8:List Int):US:=stL 56 [(8,.one (.s .own () 1 (zv8.map etI)))]
abbrev kG:US→Exit→US→Prop:=Round E 87 (au Tryz.f87 0)
def uk (v6 v7:Int) (v8:List Int) (v22:List ByteArray) (v23 v24:Int):nK→Prop
 | .ret zv4 zv5=>Loops E 87 (au Tryz.f87 0) (ex v6 v7 v8 v22 v23 v24) .ret (iy zv4 zv5)
 | .x0 zv8=>Loops E 87 (au Tryz.f87 0) (ex v6 v7 v8 v22 v23 v24) (.exit 0) (jl zv8)
noncomputable def cu (v6 v7:Int):List ByteArray→Nat→(List Int)→Option nK
 | [],i,v8=>some (.x0 v8)
 | hd::rest,i,v8=>if hd.size≤2000000 then cond ((cf hd v6 v7).2.2.2)
  ((ey ((cf hd v6 v7).2.1) ((cf hd v6 v7).2.2.1) 9223372036854775808 v8 ((cf hd v6 v7).1)).bind fun y=>match y with
   | .x2 w0_8=>(cu v6 v7 rest (i+1) w0_8))
  (some (.ret ([]) false)) else none
theorem ui (v6 v7:Int) (v22:List ByteArray) (rest:List ByteArray):∀ (i:Nat) (v8:List Int),(v22).drop i=rest→v22.length≤9223372036854775807→Ans (cu v6 v7 rest i v8) (uk v6 v7 v8 v22 (v22.length:Int) (i:Int)):=by
 induction rest with
 | nil =>
  intro i v8 hE hl
  have hb:=bq hE
  unfold cu
  exact Ib (Id (show kG (ex v6 v7 v8 v22 (v22.length:Int) (i:Int)) (.exit 0) (jl v8) from RP [.b false] (AC hb<|AN)) (by intro h;cases h))
 | cons hd rest ih =>
  intro i v8 hE hl
  have hb:=a8 hE
  have hw:=ba hE hl
  have hE2:=aG hE
  have hg:=bd hE
  unfold cu
  refine Ig (fun h2 => ?_)
  apply Ie<;>intro h3
  ·refine If (fun y hy => ?_)
   replace hy:=uj v6 v7 ((cf hd v6 v7).2.1) ((cf hd v6 v7).2.2.1) v22 (v22.length:Int) (i:Int) 9223372036854775808 v8 ((cf hd v6 v7).1) y hy
   cases y with
   | x2 w0_8 =>
    have h4:=hy
    exact (ih (i+1) w0_8 hE2 hl).mono fun y hy=>by have r:kG (ex v6 v7 v8 v22 (v22.length:Int) (i:Int)) .normal (ex v6 v7 w0_8 v22 (v22.length:Int) (inc (i:Int))):=RP [.b true,.row (etS hd),.ret [(false,[tI ((cf hd v6 v7).1)]),(false,[tI ((cf hd v6 v7).2.1)]),(false,[tI ((cf hd v6 v7).2.2.1)]),(false,[tB true])],.lp (.exit 2) (jm v6 v7 v22 (v22.length:Int) (i:Int) w0_8)] (AC hb<|AG etS hg<|AD (pR hd v6 v7 h2 h3)<|AL h4<|AN);rw [hw] at r;cases y<;>exact Ic r hy
  ·exact Ib (Id (show kG (ex v6 v7 v8 v22 (v22.length:Int) (i:Int)) .ret (iy ([]) false) from RP [.b true,.row (etS hd),.ret [(false,[tI ((cf hd v6 v7).1)]),(false,[tI ((cf hd v6 v7).2.1)]),(false,[tI ((cf hd v6 v7).2.2.1)]),(false,[tB false])]] (AC hb<|AG etS hg<|AD (pR hd v6 v7 h2 h3)<|AN)) (by intro h;cases h))
noncomputable def eR (x0:ByteArray) (x1:Int):Option ((List Int)×Bool) :=
  if x0.size<4294967281 then if 1≤(⟨#[44]⟩:ByteArray).size then if (cN x0 (⟨#[44]⟩:ByteArray)).length≤9223372036854775807 then (cu ((aw x1).1) ((aw x1).2) (cN x0 (⟨#[44]⟩:ByteArray)) 0 ([])).bind fun y=>match y with
   | .ret w0_4 w0_5=>(some (w0_4,w0_5))
   | .x0 w0_8=>(if w0_8.length<4611686018427387904 then if (fE w0_8).length≤9223372036854775807 then some (id (fI (fE w0_8)),true) else none else none) else none else none else none
theorem vc (x0:ByteArray) (x1:Int):Ans (eR x0 x1) (fun r=>Does E 87 [.one (tS x0),.one (tI x1)] [(false,[.s .own () 1 (r.1.map etI)]),(false,[tB r.2])]):=by
 unfold eR
 refine Ig (fun h0 => ?_)
 refine Ig (fun h1 => ?_)
 refine Ig (fun hl1 => ?_)
 refine If (fun y hy => ?_)
 replace hy:=ui ((aw x1).1) ((aw x1).2) (cN x0 (⟨#[44]⟩:ByteArray)) (cN x0 (⟨#[44]⟩:ByteArray)) 0 ([]) rfl hl1 y hy
 cases y with
 | ret w0_4 w0_5 =>
  have h2:=hy
  exact Ib (DP Tryz.f87 [.ret [(false,[tI ((aw x1).1)]),(false,[tI ((aw x1).2)])],.ret [(false,[.s .own () 1 ((cN x0 (⟨#[44]⟩:ByteArray)).map etS)])],.val (.int .i64 ((cN x0 (⟨#[44]⟩:ByteArray)).length:Int)),.lp .ret (iy w0_4 w0_5)] (AD (bC x1)<|AD (hZ x0 (⟨#[44]⟩:ByteArray) h0 h1)<|ALn (cN x0 (⟨#[44]⟩:ByteArray)) etS<|AL h2<|AN))
 | x0 w0_8 =>
  have h2:=hy
  refine Ig (fun h3 => ?_)
  refine Ig (fun h4 => ?_)
  exact Ib (DP Tryz.f87 [.ret [(false,[tI ((aw x1).1)]),(false,[tI ((aw x1).2)])],.ret [(false,[.s .own () 1 ((cN x0 (⟨#[44]⟩:ByteArray)).map etS)])],.val (.int .i64 ((cN x0 (⟨#[44]⟩:ByteArray)).length:Int)),.lp (.exit 0) (jl w0_8),.ret [(false,[.s .own () 1 ((fE w0_8).map etI)])],.ret [(false,[.any]),(false,[.s .own () 1 ((fI (fE w0_8)).map etI)])],.ret [(false,[.any]),(false,[.s .own () 1 ((id (fI (fE w0_8))).map etI)])]] (AD (bC x1)<|AD (hZ x0 (⟨#[44]⟩:ByteArray) h0 h1)<|ALn (cN x0 (⟨#[44]⟩:ByteArray)) etS<|AL h2<|AC (p:=(w0_8.map etI).length=(w0_8.map etI).length) rfl<|AV (ψ:=fun k=>E.C k 53 [.one (.s .own () 1 (w0_8.map etI))]=some [(false,[.s .own () 1 ((fE w0_8).map etI)])]) (rY w0_8 h3)<|AV (ψ:=fun k=>E.C k 111 [.one (.s .own () 1 ((fE w0_8).map etI))]=some [(false,[.any]),(false,[.s .own () 1 ((fI (fE w0_8)).map etI)])]) (o8 (fE w0_8) h4)<|AV (ψ:=fun k=>E.C k 110 [.one (.s .own () 1 ((fI (fE w0_8)).map etI))]=some [(false,[.any]),(false,[.s .own () 1 ((id (fI (fE w0_8))).map etI)])]) (rX (fI (fE w0_8)))<|AN))
def Marks (lo hi:Int) (has:List Bool) (l:List Int):Prop :=
 (has.length:Int)=hi+1∧(∀ x∈l,lo≤x∧x≤hi)∧∀ j:Nat,(j:Int)≤hi→(has[j]?=some true↔(j:Int)∈l)
theorem Marks.add {lo hi:Int} {has:List Bool} {l:List Int} (h:Marks lo hi has l) (h0:0≤lo) {x:Int} (hx:lo≤x∧x≤hi):Marks lo hi (has.set x.toNat true) (l++[x]):=by
 obtain ⟨h1,h2,h3⟩:=h
 refine ⟨by rw [List.length_set];exact h1,fun y hy => ?_,fun j hj => ?_⟩
 ·rcases List.mem_append.1 hy with hy | hy
  ·exact h2 y hy
  ·rw [List.mem_singleton] at hy;subst hy;exact hx
 ·rw [List.mem_append,List.mem_singleton,List.getElem?_set]
  by_cases e:x.toNat=j
  ·rw [if_pos e,if_pos (by omega)]
   exact ⟨fun _ => .inr (by omega),fun _=>rfl⟩
  ·rw [if_neg e,h3 j hj]
   exact ⟨.inl,fun h=>h.resolve_right (by omega)⟩
theorem yX (lo hi b st:Int) (h0:0≤lo) (hhi:hi≤59) (hb:b≤hi) (h1:1≤st) (h2:st≤1000000000):∀ (k n:Nat) (a:Int) (has:List Bool) (l:List Int),(b-a+1).toNat≤k→k<n→lo≤a→a≤1000000100→Marks lo hi has l→l.length+k≤1000000000 →
  ∃ has' l',fo b st n has a=some (.x2 has')∧ey b st n l a=some (.x2 l')∧Marks lo hi has' l'∧l'.length≤l.length+k∧(a≤b∨l≠[]→l'≠[])
 | k,0,a,has,l,_,hn,_,_,_,_=>by omega
 | k,n+1,a,has,l,hk,hn,ha,ha',hM,hl=>by
  unfold fo ey
  by_cases q:a≤b
  ·obtain ⟨g,hg,_⟩:=u5 (l:=has) (k:=a) (by have:=hM.1;omega)
   obtain ⟨k,rfl⟩:∃ j,k=j+1:=⟨k-1,by omega⟩
   have e:IntKind.wrap .i64 (a+st)=a+st:=cW _ (by omega) (by omega)
   obtain ⟨has',l',e1,e2,e3,e4,e5⟩:=yX lo hi b st h0 hhi hb h1 h2 k n (a+st) (has.set a.toNat true) (l++[a]) (by omega) (by omega) (by omega) (by omega) (hM.add h0 (by omega)) (by simp;omega)
   refine ⟨has',l',?_,?_,e3,by simp at e4;omega,fun _=>e5 (.inr (by simp))⟩
   ·rw [decide_eq_true q,cond_true,hg,Option.bind_some,e];exact e1
   ·rw [decide_eq_true q,cond_true,if_pos (by simp;omega),e];exact e2
  ·rw [decide_eq_false q]
   exact ⟨has,l,rfl,rfl,hM,by omega,fun h=>h.resolve_left q⟩
theorem so (lo hi:Int) (h0:0≤lo) (hlh:lo≤hi) (hhi:hi≤59):∀ (ps:List ByteArray) (i:Nat) (has:List Bool) (l:List Int),(∀ p∈ps,p.size≤2000000)→Marks lo hi has l→l.length+ps.length*60≤1000000000 →
  (df lo hi ps i has=some (.ret [] false)∧cu lo hi ps i l=some (.ret [] false)) ∨
  ∃ has' l',df lo hi ps i has=some (.x0 has')∧cu lo hi ps i l=some (.x0 l')∧Marks lo hi has' l'∧l'.length≤l.length+ps.length*60∧(ps≠[]∨l≠[]→l'≠[])
 | [],i,has,l,_,hM,_ => .inr ⟨has,l,rfl,rfl,hM,by simp,fun h=>h.resolve_left fun h=>h rfl⟩
 | p::ps,i,has,l,hp,hM,hl=>by
  have hq:=hp p (by simp)
  obtain ⟨-,r1⟩:=wa p lo hi hq
  obtain ⟨-,r2⟩:=vZ p lo hi hq
  unfold df cu
  simp only [if_pos hq]
  cases e:pD p lo hi with
  | none =>
   rw [e] at r1 r2
   have r1:(cg p lo hi).2.2.2=false:=r1
   have r2:(cf p lo hi).2.2.2=false:=r2
   rw [r1,r2]
   exact .inl ⟨rfl,rfl⟩
  | some x =>
   obtain ⟨a,b,st⟩:=x
   rw [e] at r1 r2
   have r1:cg p lo hi=(a,b,st,true):=r1
   have r2:cf p lo hi=(a,b,st,true):=r2
   obtain ⟨a1,a2,a3,a4,a5⟩:=Ey hlh e
   simp only [List.length_cons] at hl
   obtain ⟨has',l',e1,e2,e3,e4,e5⟩:=yX lo hi b st h0 hhi a3 a4 a5 60 9223372036854775808 a has l (by omega) (by omega) a1 (by omega) hM (by omega)
   rw [r1,r2]
   simp only [cond_true,e1,e2,Option.bind_some]
   rcases so lo hi h0 hlh hhi ps (i+1) has' l' (fun p hp'=>hp p (by simp [hp'])) e3 (by omega) with h | ⟨has2,l2,g1,g2,g3,g4,g5⟩
   ·exact .inl h
   ·exact .inr ⟨has2,l2,g1,g2,g3,by rw [List.length_cons];omega,fun _=>g5 (.inr (e5 (.inl a2)))⟩
theorem Cd (hi:Int) (has:List Bool) (hh:(has.length:Int)=hi+1) (hhi:hi≤59):∀ (k n:Nat) (x:Int) (v:List Int),(hi-x+1).toNat≤k→k<n→0≤x→x≤100→v.length+k≤1000→v.Pairwise (· < ·)→(∀ y∈v,y<x) →
  ∃ w,dO hi has n v x=some (.x4 w)∧w.Pairwise (· < ·)∧∀ y,y∈w↔y∈v∨(x≤y∧y≤hi∧has[y.toNat]?=some true)
 | k,0,x,v,_,hn,_,_,_,_,_=>by omega
 | k,n+1,x,v,hk,hn,hx,hx',hl,hp,hm=>by
  unfold dO
  by_cases q:x≤hi
  ·obtain ⟨g,hg,_⟩:=u5 (l:=has) (k:=x) (by omega)
   have hg':=(qM hg).2
   obtain ⟨k,rfl⟩:∃ j,k=j+1:=⟨k-1,by omega⟩
   have e:inc x=x+1:=m9 _ (by omega) (by omega)
   rw [decide_eq_true q,cond_true,hg,Option.bind_some]
   cases g with
   | true =>
    obtain ⟨w,w1,w2,w3⟩:=Cd hi has hh hhi k n (x+1) (v++[x]) (by omega) (by omega) (by omega) (by omega) (by simp;omega)
     (by rw [List.pairwise_append];exact ⟨hp,by simp,fun a ha b hb=>by rw [List.mem_singleton] at hb;subst hb;exact hm a ha⟩)
     (fun y hy=>by rcases List.mem_append.1 hy with h | h;have:=hm y h;omega;rw [List.mem_singleton] at h;omega)
    refine ⟨w,by rw [cond_true,if_pos (by simp;omega),e];exact w1,w2,fun y => ?_⟩
    rw [w3,List.mem_append,List.mem_singleton]
    constructor
    ·rintro ((h | rfl) | h)
     ·exact .inl h
     ·exact .inr ⟨Int.le_refl _,q,hg'⟩
     ·exact .inr ⟨by omega,h.2⟩
    ·rintro (h | h)
     ·exact .inl (.inl h)
     ·by_cases z:y=x
      ·exact .inl (.inr z)
      ·exact .inr ⟨by omega,h.2⟩
   | false =>
    obtain ⟨w,w1,w2,w3⟩:=Cd hi has hh hhi k n (x+1) v (by omega) (by omega) (by omega) (by omega) (by omega) hp (fun y hy=>by have:=hm y hy;omega)
    refine ⟨w,by rw [cond_false,e];exact w1,w2,fun y => ?_⟩
    rw [w3]
    constructor
    ·rintro (h | h)
     ·exact .inl h
     ·exact .inr ⟨by omega,h.2⟩
    ·rintro (h | h)
     ·exact .inl h
     ·by_cases z:y=x
      ·subst z;rw [hg'] at h;exact absurd h.2.2 (by simp)
      ·exact .inr ⟨by omega,h.2⟩
  ·rw [decide_eq_false q]
   exact ⟨v,rfl,hp,fun y=>⟨.inl,fun h=>h.resolve_right fun h=>by omega⟩⟩
theorem tn (lo hi:Int):∀ (l:List Int) (a:Int),l.Pairwise (· < ·)→(∀ x∈l,a≤x∧x≤hi)→a≤hi+1→(l.length:Int)≤hi+1-a
 | [],a,_,_,h=>by simp;omega
 | x::l,a,hp,hm,h=>by
  rw [List.pairwise_cons] at hp
  have:=hm x (by simp)
  have:=tn lo hi l (x+1) hp.2 (fun y hy=>⟨by have:=hp.1 y hy;omega,(hm y (by simp [hy])).2⟩) (by omega)
  simp;omega
noncomputable def ab (s:ByteArray) (lo hi:Int):List Int×Bool:=(fc s lo hi).getD ([],false)
noncomputable def aE (s:ByteArray) (i:Int):List Int×Bool:=ab s (aw i).1 (aw i).2
def Cs (lo hi:Int) (r:List Int×Bool):Prop:=(r.2=false∧r.1=[])∨(r.2=true∧r.1.Pairwise (· < ·)∧r.1≠[]∧(∀ x∈r.1,lo≤x∧x≤hi)∧r.1.length≤60)
theorem sZ (s:ByteArray) (lo hi:Int) (hs:s.size≤2000000) (hb:0≤lo∧lo≤hi∧hi≤59):fc s lo hi=some (ab s lo hi)∧Cs lo hi (ab s lo hi)∧∀ i,aw i=(lo,hi)→eR s i=some (ab s lo hi):=by
 obtain ⟨h0,hlh,hhi⟩:=hb
 have hinc:inc hi=hi+1:=m9 _ (by omega) (by omega)
 have hl:=sX 44 (tx s)
 rw [← br] at hl
 have hL:ag s 44=(bo 44 (tx s)).map ofTx:=rfl
 have hlen:(ag s 44).length≤2000001:=by rw [hL,List.length_map];omega
 have hpz:∀ p∈ag s 44,p.size≤2000000:=fun p hp=>by
  rw [hL] at hp
  obtain ⟨x,hx,rfl⟩:=List.mem_map.1 hp
  have:=sY _ _ x hx
  rw [kk]
  rw [← br] at this
  omega
 have hM:Marks lo hi (List.replicate (inc hi).toNat false) []:=by
  refine ⟨by rw [List.length_replicate,hinc];omega,fun x hx=>(by cases hx),fun j hj => ?_⟩
  rw [List.getElem?_replicate,if_pos (by omega)]
  simp
 have hne:ag s 44≠[]:=by
  obtain ⟨x,xs,e⟩:=fh 44 (tx s)
  rw [hL,e];simp
 have hc:((0:Int)≤44∧(44:Int)<256)=True:=eq_true (by decide)
 have pre:(s.size≤2000000)=True:=eq_true hs
 have iF:∀ i,aw i=(lo,hi)→∀ r,(cu lo hi (ag s 44) 0 []).bind (fun y=>match y with
   | .ret w0_4 w0_5=>(some (w0_4,w0_5))
   | .x0 w0_8=>(if w0_8.length<4611686018427387904 then if (fE w0_8).length≤9223372036854775807 then some (id (fI (fE w0_8)),true) else none else none))=some r→eR s i=some r:=fun i hi r hr=>by
  unfold eR
  rw [if_pos (by omega),if_pos (by decide),uC, ← hL,if_pos (by omega),hi]
  exact hr
 have sF:fc s lo hi=(df lo hi (ag s 44) 0 (List.replicate (inc hi).toNat false)).bind fun y=>match y with
   | .ret w0_6 w0_7=>(some (w0_6,w0_7))
   | .x0 w0_8=>((dO hi w0_8 9223372036854775808 ([]) lo).bind fun y=>match y with
    | .x4 w1_16=>(some (w1_16,true))):=by
  unfold fc
  simp only [hc,pre,if_true]
  rw [if_pos (by omega),if_pos (by omega)]
 rcases so lo hi h0 hlh hhi (ag s 44) 0 _ [] hpz hM (by simp;omega) with ⟨h1,h2⟩ | ⟨has,l,h1,h2,h3,h4,h5⟩
 ·rw [h1] at sF
  have sF':fc s lo hi=some ([],false):=sF
  have e:ab s lo hi=([],false):=by unfold ab;rw [sF'];rfl
  rw [e]
  exact ⟨sF',.inl ⟨rfl,rfl⟩,fun i hi=>iF i hi _ (by rw [h2];rfl)⟩
 ·obtain ⟨w,w1,w2,w3⟩:=Cd hi has h3.1 hhi 60 9223372036854775808 lo [] (by omega) (by omega) h0 (by omega) (by simp) (by simp) (fun y hy=>by cases hy)
  have hw:∀ y,y∈w↔y∈l:=fun y=>by
   rw [w3]
   constructor
   ·rintro (h | ⟨a1,a2,a3⟩)
    ·cases h
    ·have:=(h3.2.2 y.toNat (by omega)).1 a3
     rwa [show ((y.toNat:Nat):Int)=y by omega] at this
   ·intro h
    have b:=h3.2.1 y h
    refine .inr ⟨b.1,b.2,(h3.2.2 y.toNat (by omega)).2 ?_⟩
    rwa [show ((y.toNat:Nat):Int)=y by omega]
  obtain ⟨c1,c2⟩:=zn l
  have e3:fI (fE l)=w:=wk c1 w2 fun y=>(c2 y).trans (hw y).symm
  rw [h1,Option.bind_some] at sF
  simp only [w1,Option.bind_some] at sF
  have e:ab s lo hi=(w,true):=by unfold ab;rw [sF];rfl
  rw [e]
  have wm:∀ x∈w,lo≤x∧x≤hi:=fun x hx=>h3.2.1 x ((hw x).1 hx)
  have wl:=tn lo hi w lo w2 wm (by omega)
  refine ⟨sF,.inr ⟨rfl,w2,fun z => ?_,wm,by show w.length≤60;omega⟩,fun i hi=>iF i hi _ ?_⟩
  ·have hln:=h5 (.inl hne)
   cases q:l with
   | nil=>exact hln q
   | cons x t=>have:=(hw x).2 (by rw [q];simp);rw [show w=[] from z] at this;cases this
  ·rw [h2,Option.bind_some]
   simp only
   have sl:(fE l).length=l.length:=List.length_mergeSort l
   rw [sl,if_pos (by simp at h4;omega),if_pos (by simp at h4;omega),e3]
   rfl
theorem wI (s:ByteArray) (i:Int) (hs:s.size≤2000000):eR s i=some (aE s i):=(sZ s _ _ hs (Cz i)).2.2 i rfl
theorem cZ (x0:ByteArray) (x1:Int) (x2:Int) (h:x0.size≤2000000) (hb:0≤x1∧x1≤x2∧x2≤59):Does E 77 [.one (tS x0),.one (tI x1),.one (tI x2)] [(false,[.s .own () 1 (((ab x0 x1 x2).1).map etI)]),(false,[tB ((ab x0 x1 x2).2)])]:=by
 exact y8 x0 x1 x2 _ (sZ x0 x1 x2 h hb).1
theorem uO (x0:ByteArray) (x1:Int) (h:x0.size≤2000000):Does E 87 [.one (tS x0),.one (tI x1)] [(false,[.s .own () 1 (((aE x0 x1).1).map etI)]),(false,[tB ((aE x0 x1).2)])]:=by
 exact vc x0 x1 _ (wI x0 x1 h)
theorem bJ (x0:ByteArray) (x1:Int) (h:x0.size≤2000000) {bb:Bool} (hbb:(aE x0 x1).2=bb):Does E 87 [.one (tS x0),.one (tI x1)] [(false,[.s .own () 1 (((aE x0 x1).1).map etI)]),(false,[tB bb])]:=by rw [← hbb];exact uO x0 x1 h
end Go.Proofs.YtjfbofdmjihglaaGreatDoor.Am
