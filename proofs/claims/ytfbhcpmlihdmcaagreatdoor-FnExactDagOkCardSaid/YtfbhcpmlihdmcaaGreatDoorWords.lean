/- Numbers in words. -/
import Derived.Test.YtfbhcpmlihdmcaaGreatDoorEnv
import Derived.Test.YtfbhcpmlihdmcaaGreatDoorShelf
namespace Go.Proofs.YtfbhcpmlihdmcaaGreatDoor.Am
open Go Go.Proofs Classical
set_option maxRecDepth 100000
set_option linter.unusedVariables false
set_option linter.unusedSimpArgs false
structure GCron where
 f0 : List Int
 f1 : List Int
 f2 : List Int
 f3 : List Int
 f4 : List Int
def GCron.t (k : Kd) (x : GCron) : List (T Unit) := [.s k () 1 (x.f0.map etI), .s k () 1 (x.f1.map etI), .s k () 1 (x.f2.map etI), .s k () 1 (x.f3.map etI), .s k () 1 (x.f4.map etI)]
instance : aq GCron := ⟨fun x => aq.sm x.f0 ∧ aq.sm x.f1 ∧ aq.sm x.f2 ∧ aq.sm x.f3 ∧ aq.sm x.f4⟩
instance : Wf GCron := ⟨fun x => Wf.wf x.f0 ∧ Wf.wf x.f1 ∧ Wf.wf x.f2 ∧ Wf.wf x.f3 ∧ Wf.wf x.f4⟩
structure GTask where
 f0 : ByteArray
 f1 : ByteArray
 f2 : Int
 f3 : Bool
 f4 : List ByteArray
def GTask.t (k : Kd) (x : GTask) : List (T Unit) := [tS x.f0, tS x.f1, tI x.f2, tB x.f3, .s k () 1 (x.f4.map etS)]
instance : aq GTask := ⟨fun x => aq.sm x.f0 ∧ aq.sm x.f1 ∧ aq.sm x.f4⟩
instance : Wf GTask := ⟨fun x => Wf.wf x.f0 ∧ Wf.wf x.f1 ∧ Wf.wf x.f4⟩
structure GDag where
 f0 : ByteArray
 f1 : ByteArray
 f2 : Int
 f3 : Int
 f4 : Bool
 f5 : List GTask
def GDag.t (k q : Kd) (x : GDag) : List (T Unit) := [tS x.f0, tS x.f1, tI x.f2, tI x.f3, tB x.f4, .s k () 5 (x.f5.map (GTask.t q))]
instance : aq GDag := ⟨fun x => aq.sm x.f0 ∧ aq.sm x.f1 ∧ aq.sm x.f5⟩
instance : Wf GDag := ⟨fun x => Wf.wf x.f0 ∧ Wf.wf x.f1 ∧ Wf.wf x.f5⟩
structure LDag where
 f0 : ByteArray
 f1 : ByteArray
 f2 : Int
 f3 : Int
 f4 : Bool
 f5 : List GTask
def LDag.t (k q : Kd) (x : LDag) : List (T Unit) := [tS x.f0, tS x.f1, tI x.f2, tI x.f3, tB x.f4, .s k () 5 (x.f5.map (GTask.t q))]
instance : aq LDag := ⟨fun x => aq.sm x.f0 ∧ aq.sm x.f1 ∧ aq.sm x.f5⟩
instance : Wf LDag := ⟨fun x => Wf.wf x.f0 ∧ Wf.wf x.f1 ∧ Wf.wf x.f5⟩
def cd (s sep : ByteArray) : List ByteArray := Lib.splitB sep 0 (Lib.countB s sep) s
def ao (xs : List ByteArray) (sep : ByteArray) : ByteArray := ⟨(Lib.join (xs.map (·.data.toList)) sep.data.toList).toArray⟩
def aI (n : Int) : ByteArray := ⟨(Lib.itoa n).toArray⟩
def aC (s sep : ByteArray) : ByteArray × ByteArray × Bool := (⟨(Lib.cut s.data.toList sep.data.toList).1.toArray⟩, ⟨(Lib.cut s.data.toList sep.data.toList).2.1.toArray⟩, (Lib.cut s.data.toList sep.data.toList).2.2)
def be (s p : ByteArray) : ByteArray × Bool := (⟨(Lib.trimPrefix s.data.toList p.data.toList).toArray⟩, Lib.hasPrefix s.data.toList p.data.toList)
noncomputable def fy (l : List Int) : List Int := l.mergeSort fun x y => decide (x ≤ y)
noncomputable def fC (l : List Int) : List Int := Lib.compact l
theorem hU (x0 x1 : ByteArray) (h1 : x0.size < 4294967281) (h2 : 1 ≤ x1.size) : Does E 59 [.one (tS x0), .one (tS x1)] [(false, [.s .own () 1 ((cd x0 x1).map etS)])] := by
 refine Does.orc ⟨0, fun k _ => ?_⟩
 have o : ∀ C us, E.orc C 59 us = vt us := fun _ _ => rfl
 refine (o _ _).trans ?_
 show (if _ then _ else _) = _
 rw [if_pos ⟨h1, h2⟩]
 rfl
theorem c8 (x0 x1 : ByteArray) (h1 : x0.size < 4294967281) : Does E 72 [.one (tS x0), .one (tS x1)] [(false, [tS (aC x0 x1).1]), (false, [tS (aC x0 x1).2.1]), (false, [tB (aC x0 x1).2.2])] := by
 refine Does.orc ⟨0, fun k _ => ?_⟩
 have o : ∀ C us, E.orc C 72 us = Dm us := fun _ _ => rfl
 refine (o _ _).trans ?_
 show (if _ then _ else _) = _
 rw [if_pos h1]
 rfl
theorem bd (x0 x1 : ByteArray)  : Does E 70 [.one (tS x0), .one (tS x1)] [(false, [tS (be x0 x1).1]), (false, [tB (be x0 x1).2])] := by
 refine Does.orc ⟨0, fun k _ => ?_⟩
 have o : ∀ C us, E.orc C 70 us = mf us := fun _ _ => rfl
 refine (o _ _).trans ?_
 rfl
theorem vD (x0 : Int) (h : -9223372036854775808 ≤ x0 ∧ x0 ≤ 9223372036854775807) : Does E 65 [.one (tI x0)] [(false, [tS (aI x0)])] := by
 refine Does.orc ⟨0, fun k _ => ?_⟩
 have o : ∀ C us, E.orc C 65 us = zm us := fun _ _ => rfl
 refine (o _ _).trans ?_
 show (if _ then _ else _) = _
 rw [if_pos h]
 rfl
theorem eH (x0 : List ByteArray) (x1 : ByteArray) (h : x0.length ≤ 140737488355328 ∧ (ao x0 x1).size ≤ 140737488355328) : Does E 54 [.one (.s .far () 1 (x0.map etS)), .one (tS x1)] [(false, [tS (ao x0 x1)])] := by
 refine Does.orc ⟨0, fun k _ => ?_⟩
 have o : ∀ C us, E.orc C 54 us = zn us := fun _ _ => rfl
 refine (o _ _).trans ?_
 show (m5 _).bind _ = _
 rw [vw, Option.bind_some, if_pos ⟨h.1, h.2⟩]
 rfl
theorem rI (x0 : List Int) (h : x0.length < 4611686018427387904) : Does E 62 [.one (.s .own () 1 (x0.map etI))] [(false, [.s .own () 1 ((fy x0).map etI)])] := by
 refine Does.orc ⟨0, fun k _ => ?_⟩
 have o : ∀ C us, E.orc C 62 us = zp us := fun _ _ => rfl
 refine (o _ _).trans ?_
 show (iC _).bind _ = _
 rw [mm, Option.bind_some, if_pos h]
 rfl
theorem oM (x0 : List Int) (h : x0.length ≤ 9223372036854775807) : Does E 64 [.one (.s .own () 1 (x0.map etI))] [(false, [.any]), (false, [.s .own () 1 ((fC x0).map etI)])] := by
 refine Does.orc ⟨0, fun k _ => ?_⟩
 have o : ∀ C us, E.orc C 64 us = oR us := fun _ _ => rfl
 refine (o _ _).trans ?_
 show (iC _).bind _ = _
 rw [mm, Option.bind_some, if_pos h]
 rfl
theorem rH (x0 : List Int)  : Does E 63 [.one (.s .own () 1 (x0.map etI))] [(false, [.any]), (false, [.s .own () 1 ((id x0).map etI)])] := by
 refine Does.orc ⟨0, fun k _ => ?_⟩
 have o : ∀ C us, E.orc C 63 us = zj us := fun _ _ => rfl
 refine (o _ _).trans ?_
 show (iC _).bind _ = _
 rw [mm, Option.bind_some]
 rfl
end Go.Proofs.YtfbhcpmlihdmcaaGreatDoor.Am
namespace Go.Proofs.YtfbhcpmlihdmcaaGreatDoor.Am
open Go Go.Proofs Classical
set_option maxRecDepth 100000
set_option linter.unusedVariables false
set_option linter.unusedSimpArgs false
def aD (x a b : Int) : Bool := decide (x ≥ a) && decide (x ≤ b)
theorem vS {α : Type} {l : List α} {k : Int} (h : 0 ≤ k ∧ k < (l.length : Int)) : ∃ x, am l k = some x ∧ x ∈ l := by
 unfold am
 rw [if_pos h.1, List.getElem?_eq_getElem (by omega)]
 exact ⟨_, rfl, List.getElem_mem _⟩
noncomputable def rm (x0 x1 x2 : Int) : Option (Bool) :=
  cond (decide (x0 ≥ x1))
   (some (decide (x0 ≤ x2)))
   (some (false))
theorem Fv (x0 x1 x2 : Int) : Ans (rm x0 x1 x2) (fun r => Does E 13 [.one (tI x0), .one (tI x1), .one (tI x2)] [(false, [tB r])]) := by
 unfold rm
 refine I3 (fun h0 => ?_) (fun h0 => ?_)
 ·exact IX (IW (fn := Tryz.f13) [.b true] _ rfl (fun _ => rfl) (fun k => by kernel_rfl) (AC h0 <| AN))
 ·exact IX (IW (fn := Tryz.f13) [.b false] _ rfl (fun _ => rfl) (fun k => by kernel_rfl) (AC h0 <| AN))
theorem bf (x0 : Int) (x1 : Int) (x2 : Int) : Does E 13 [.one (tI x0), .one (tI x1), .one (tI x2)] [(false, [tB (aD x0 x1 x2)])] := by
 exact Fv x0 x1 x2 _ (by unfold rm aD; cases decide (x0 ≥ x1) <;> rfl)
noncomputable def nK (x0 x1 x2 : Int) : Option (Bool) :=
  cond (decide (x0 ≥ x1))
   (some (decide (x0 ≤ x2)))
   (some (false))
theorem Ci (x0 x1 x2 : Int) : Ans (nK x0 x1 x2) (fun r => Does E 19 [.one (tI x0), .one (tI x1), .one (tI x2)] [(false, [tB r])]) := by
 unfold nK
 refine I3 (fun h0 => ?_) (fun h0 => ?_)
 ·exact IX (IW (fn := Tryz.f19) [.b true] _ rfl (fun _ => rfl) (fun k => by kernel_rfl) (AC h0 <| AN))
 ·exact IX (IW (fn := Tryz.f19) [.b false] _ rfl (fun _ => rfl) (fun k => by kernel_rfl) (AC h0 <| AN))
theorem cC (x0 : Int) (x1 : Int) (x2 : Int) : Does E 19 [.one (tI x0), .one (tI x1), .one (tI x2)] [(false, [tB (aD x0 x1 x2)])] := by
 exact Ci x0 x1 x2 _ (by unfold nK aD; cases decide (x0 ≥ x1) <;> rfl)
noncomputable def gK (x0 : Int) : Option (Int) :=
  cond (decide (x0 < (10 : Int)))
   (some (IntKind.wrap .u8 (IntKind.wrap .i64 ((48 : Int) + x0))))
   (some (IntKind.wrap .u8 (IntKind.wrap .i64 ((IntKind.wrap .i64 ((97 : Int) + x0)) - (10 : Int)))))
theorem yZ (x0 : Int) : Ans (gK x0) (fun r => Does E 58 [.one (tI x0)] [(false, [tY r])]) := by
 unfold gK
 refine I3 (fun h0 => ?_) (fun h0 => ?_)
 ·exact IX (IW (fn := Tryz.f58) [.b true] _ rfl (fun _ => rfl) (fun k => by kernel_rfl) (AC h0 <| AN))
 ·exact IX (IW (fn := Tryz.f58) [.b false] _ rfl (fun _ => rfl) (fun k => by kernel_rfl) (AC h0 <| AN))
theorem GG {x : Int} (h0 : 0 ≤ x) (h1 : x < 256) : IntKind.wrap .u8 x = x := by
 simp only [IntKind.wrap, IntKind.bits, IntKind.signed]
 simp
 omega
noncomputable def bD (x : Int) : Int := (gK x).getD 0
theorem z8 (d : Nat) (h : d < 10) : bD (d : Int) = 48 + (d : Int) := by
 unfold bD gK
 rw [decide_eq_true (by omega), cond_true, Option.getD_some, cU _ (by omega) (by omega), GG (by omega) (by omega)]
theorem pB (x0 : Int) : Does E 58 [.one (tI x0)] [(false, [tY (bD x0)])] := by
 exact yZ x0 _ (by unfold bD gK; cases decide (x0 < 10) <;> rfl)
noncomputable def nJ (x0 : Int) : Option (ByteArray) :=
  if -9223372036854775808 ≤ x0 ∧ x0 ≤ 9223372036854775807 then some (aI x0) else none
theorem Ce (x0 : Int) : Ans (nJ x0) (fun r => Does E 53 [.one (tI x0)] [(false, [tS r])]) := by
 unfold nJ
 refine I5 (fun h0 => ?_)
 exact IX (IW (fn := Tryz.f53) [.ret [(false, [tS (aI x0)])]] _ rfl (fun _ => rfl) (fun k => by kernel_rfl) (AD (vD x0 h0) <| AN))
theorem nC (x0 : Int) (h : -9223372036854775808 ≤ x0 ∧ x0 ≤ 9223372036854775807) : Does E 53 [.one (tI x0)] [(false, [tS (aI x0)])] := by
 exact Ce x0 _ (by unfold nJ; rw [if_pos h])
inductive rg where
 | x0 (v4 : ByteArray)
def fS (v0 : Int) (v3 : Bool) (v4 : ByteArray) : US := stL 30 [(0, .one (tI v0)), (3, .one (tB v3)), (4, .one (tS v4))]
def i8 (v3 : Bool) (zv4 : ByteArray) : US := stL 30 [(3, .one (tB v3)), (4, .one (tS zv4))]
abbrev mW : US → Exit → US → Prop := Round E 46 (aB Tryz.f46 0)
def Bg (v0 : Int) (v3 : Bool) (v4 : ByteArray) : rg → Prop
 | .x0 zv4 => Loops E 46 (aB Tryz.f46 0) (fS v0 v3 v4) (.exit 0) (i8 v3 zv4)
theorem wL (v0 : Int) (v3 : Bool) (v4 : ByteArray) (h0 : (v0 != (0 : Int)) = true) (h1 : (decide ((Int.tmod v0 (10 : Int)) < (0 : Int))) = true) (h2 : (strOfNums ([bD (IntKind.wrap .i64 (0 - (Int.tmod v0 (10 : Int))))])).size + v4.size ≤ bL) : mW (fS v0 v3 v4) .normal (fS (IntKind.wrap .i64 (Int.tdiv v0 (10 : Int))) v3 ((strOfNums ([bD (IntKind.wrap .i64 (0 - (Int.tmod v0 (10 : Int))))])) ++ v4)) :=
 IV [.b true, .no, .b true, .ret [(false, [tY (bD (IntKind.wrap .i64 (0 - (Int.tmod v0 (10 : Int)))))])], .val (.string (strOfNums ([bD (IntKind.wrap .i64 (0 - (Int.tmod v0 (10 : Int))))]))), .val (.string ((strOfNums ([bD (IntKind.wrap .i64 (0 - (Int.tmod v0 (10 : Int))))])) ++ v4))] _ (fun k => by kernel_rfl) (AC h0 <| AC h1 <| AD (pB (IntKind.wrap .i64 (0 - (Int.tmod v0 (10 : Int))))) <| AC (p := (cL (((([bD (IntKind.wrap .i64 (0 - (Int.tmod v0 (10 : Int))))]).map etY).drop 0).take (([bD (IntKind.wrap .i64 (0 - (Int.tmod v0 (10 : Int))))]).map etY).length)).map strOfNums = some (strOfNums ([bD (IntKind.wrap .i64 (0 - (Int.tmod v0 (10 : Int))))]))) (by simp only [List.take_length, List.drop_zero]; exact FD) <| AC (p := e7 E.tab .add 9 (.string (strOfNums ([bD (IntKind.wrap .i64 (0 - (Int.tmod v0 (10 : Int))))]))) (.string v4) = some (.string ((strOfNums ([bD (IntKind.wrap .i64 (0 - (Int.tmod v0 (10 : Int))))])) ++ v4))) (fz h2) <| AN)
theorem wM (v0 : Int) (v3 : Bool) (v4 : ByteArray) (h0 : (v0 != (0 : Int)) = true) (h1 : (decide ((Int.tmod v0 (10 : Int)) < (0 : Int))) = false) (h2 : (strOfNums ([bD (Int.tmod v0 (10 : Int))])).size + v4.size ≤ bL) : mW (fS v0 v3 v4) .normal (fS (IntKind.wrap .i64 (Int.tdiv v0 (10 : Int))) v3 ((strOfNums ([bD (Int.tmod v0 (10 : Int))])) ++ v4)) :=
 IV [.b true, .no, .b false, .ret [(false, [tY (bD (Int.tmod v0 (10 : Int)))])], .val (.string (strOfNums ([bD (Int.tmod v0 (10 : Int))]))), .val (.string ((strOfNums ([bD (Int.tmod v0 (10 : Int))])) ++ v4))] _ (fun k => by kernel_rfl) (AC h0 <| AC h1 <| AD (pB (Int.tmod v0 (10 : Int))) <| AC (p := (cL (((([bD (Int.tmod v0 (10 : Int))]).map etY).drop 0).take (([bD (Int.tmod v0 (10 : Int))]).map etY).length)).map strOfNums = some (strOfNums ([bD (Int.tmod v0 (10 : Int))]))) (by simp only [List.take_length, List.drop_zero]; exact FD) <| AC (p := e7 E.tab .add 9 (.string (strOfNums ([bD (Int.tmod v0 (10 : Int))]))) (.string v4) = some (.string ((strOfNums ([bD (Int.tmod v0 (10 : Int))])) ++ v4))) (fz h2) <| AN)
theorem wN (v0 : Int) (v3 : Bool) (v4 : ByteArray) (h0 : (v0 != (0 : Int)) = false) : mW (fS v0 v3 v4) (.exit 0) (i8 v3 v4) :=
 IV [.b false] _ (fun k => by kernel_rfl) (AC h0 <| AN)
noncomputable def dY  : Nat → Int → Bool → ByteArray → Option rg
 | 0, _, _, _ => none
 | n + 1, v0, v3, v4 => cond (v0 != (0 : Int))
  (cond (decide ((Int.tmod v0 (10 : Int)) < (0 : Int)))
   (if (strOfNums ([bD (IntKind.wrap .i64 (0 - (Int.tmod v0 (10 : Int))))])).size + v4.size ≤ bL then dY n (IntKind.wrap .i64 (Int.tdiv v0 (10 : Int))) v3 ((strOfNums ([bD (IntKind.wrap .i64 (0 - (Int.tmod v0 (10 : Int))))])) ++ v4) else none)
   (if (strOfNums ([bD (Int.tmod v0 (10 : Int))])).size + v4.size ≤ bL then dY n (IntKind.wrap .i64 (Int.tdiv v0 (10 : Int))) v3 ((strOfNums ([bD (Int.tmod v0 (10 : Int))])) ++ v4) else none))
  (some (.x0 v4))
theorem rf  (n : Nat) : ∀ (v0 : Int) (v3 : Bool) (v4 : ByteArray), Ans (dY n v0 v3 v4) (Bg v0 v3 v4) := by
 induction n with
 | zero => intros; exact Ans.none
 | succ n ih =>
  intro v0 v3 v4
  unfold dY
  refine I3 (fun h0 => ?_) (fun h0 => ?_)
  ·refine I3 (fun h1 => ?_) (fun h1 => ?_)
   ·refine I5 (fun h2 => ?_)
    exact (ih (IntKind.wrap .i64 (Int.tdiv v0 (10 : Int))) v3 ((strOfNums ([bD (IntKind.wrap .i64 (0 - (Int.tmod v0 (10 : Int))))])) ++ v4)).mono fun y hy => by cases y <;> exact IY (wL v0 v3 v4 h0 h1 h2) hy
   ·refine I5 (fun h2 => ?_)
    exact (ih (IntKind.wrap .i64 (Int.tdiv v0 (10 : Int))) v3 ((strOfNums ([bD (Int.tmod v0 (10 : Int))])) ++ v4)).mono fun y hy => by cases y <;> exact IY (wM v0 v3 v4 h0 h1 h2) hy
  ·exact IX (IZ (wN v0 v3 v4 h0) (by intro h; cases h))
noncomputable def lE (x0 : Int) : Option (ByteArray) :=
  cond (x0 == (0 : Int))
   (some ((⟨#[48]⟩ : ByteArray)))
   (cond (decide (x0 < (0 : Int)))
    ((dY 9223372036854775808 x0 true ByteArray.empty).bind fun y => match y with
     | .x0 w0_4 => (if (⟨#[45]⟩ : ByteArray).size + w0_4.size ≤ bL then some ((⟨#[45]⟩ : ByteArray) ++ w0_4) else none))
    ((dY 9223372036854775808 x0 false ByteArray.empty).bind fun y => match y with
     | .x0 w0_4 => (some (w0_4))))
theorem Cw (x0 : Int) : Ans (lE x0) (fun r => Does E 46 [.one (tI x0)] [(false, [tS r])]) := by
 unfold lE
 refine I3 (fun h0 => ?_) (fun h0 => ?_)
 ·exact IX (IW (fn := Tryz.f46) [.b true] _ rfl (fun _ => rfl) (fun k => by kernel_rfl) (AC h0 <| AN))
 ·refine I3 (fun h1 => ?_) (fun h1 => ?_)
  ·refine I4 (fun y hy => ?_)
   replace hy := rf 9223372036854775808 x0 true ByteArray.empty y hy
   cases y with
   | x0 w0_4 =>
    have h2 := hy
    refine I5 (fun h3 => ?_)
    exact IX (IW (fn := Tryz.f46) [.b false, .b true, .lp (.exit 0) (i8 true w0_4), .val (.string ((⟨#[45]⟩ : ByteArray) ++ w0_4))] _ rfl (fun _ => rfl) (fun k => by kernel_rfl) (AC h0 <| AC h1 <| AL h2 <| AC (p := e7 E.tab .add 9 (.string (⟨#[45]⟩ : ByteArray)) (.string w0_4) = some (.string ((⟨#[45]⟩ : ByteArray) ++ w0_4))) (fz h3) <| AN))
  ·refine I4 (fun y hy => ?_)
   replace hy := rf 9223372036854775808 x0 false ByteArray.empty y hy
   cases y with
   | x0 w0_4 =>
    have h2 := hy
    exact IX (IW (fn := Tryz.f46) [.b false, .b false, .lp (.exit 0) (i8 false w0_4)] _ rfl (fun _ => rfl) (fun k => by kernel_rfl) (AC h0 <| AC h1 <| AL h2 <| AN))
theorem uS (d : Nat) (h : d < 10) : strOfNums [bD (d : Int)] = ofTx [UInt8.ofNat (48 + d)] := by
 rw [z8 d h]
 unfold strOfNums ofTx
 have : (48 + (d : Int)).toNat = 48 + d := by omega
 simp [this]
def qk (u : Nat) : List UInt8 := if u = 0 then [] else Lib.decDigits u
theorem EE (u : Nat) (h : 0 < u) : qk u = qk (u / 10) ++ [UInt8.ofNat (48 + u % 10)] := by
 unfold qk
 rw [if_neg (by omega), BX u h]
theorem FU (u : Nat) (h : u < 10 ^ 19) : (qk u).length ≤ 19 := by
 unfold qk
 split
 ·simp
 ·exact oU 18 u h
theorem xw (b : Bool) : ∀ (n : Nat) (v : Int) (s : List UInt8), -9223372036854775808 ≤ v → v ≤ 9223372036854775807 → v.natAbs < 10 ^ n → s.length + n ≤ 100 → ∀ m, n < m → dY m v b (ofTx s) = some (.x0 (ofTx (qk v.natAbs ++ s)))
 | 0, v, s, _, _, h, _, m, hm => by
  obtain ⟨m, rfl⟩ : ∃ k, m = k + 1 := ⟨m - 1, by omega⟩
  have : v = 0 := by simpa using h
  subst this
  rfl
 | n + 1, v, s, h1, h2, h, hs, m, hm => by
  obtain ⟨m, rfl⟩ : ∃ k, m = k + 1 := ⟨m - 1, by omega⟩
  unfold dY
  by_cases z : v = 0
  ·subst z; rfl
  ·have hz : (v != 0) = true := by simpa using z
   rw [hz, cond_true]
   have hpos : 0 < v.natAbs := by omega
   have hd : v.natAbs % 10 < 10 := Nat.mod_lt _ (by omega)
   have hq : (Int.tdiv v 10).natAbs = v.natAbs / 10 := by rw [Int.natAbs_tdiv]; rfl
   have hw : IntKind.wrap .i64 (Int.tdiv v 10) = Int.tdiv v 10 := cU _ (by omega) (by omega)
   have hm0 : (Int.tmod v 10).natAbs = v.natAbs % 10 := by rw [Int.natAbs_tmod]; rfl
   have ih := xw b n (Int.tdiv v 10) ([UInt8.ofNat (48 + v.natAbs % 10)] ++ s) (by omega) (by omega) (by rw [hq]; rw [Nat.pow_succ] at h; omega) (by simp; omega) m (by omega)
   rw [hq, ← List.append_assoc, ← EE _ hpos] at ih
   have sz : ∀ l : List UInt8, (ofTx l).size = l.length := fun l => co _
   by_cases c : Int.tmod v 10 < 0
   ·have e : IntKind.wrap .i64 (0 - Int.tmod v 10) = ((v.natAbs % 10 : Nat) : Int) := by rw [cU _ (by omega) (by omega)]; omega
    rw [decide_eq_true c, cond_true, e, uS _ hd, if_pos (by rw [sz, sz]; simp [bL]; omega), hw, lc]
    exact ih
   ·have e : Int.tmod v 10 = ((v.natAbs % 10 : Nat) : Int) := by omega
    rw [decide_eq_false c, cond_false, e, uS _ hd, if_pos (by rw [sz, sz]; simp [bL]; omega), hw, lc]
    exact ih
theorem ED (x : Int) (h : -9223372036854775808 ≤ x ∧ x ≤ 9223372036854775807) : lE x = some (aI x) := by
 unfold lE aI Lib.itoa
 by_cases z : x = 0
 ·subst z
  show some _ = some _
  rw [if_neg (by omega), Lib.decDigits, dif_pos (by simp)]; rfl
 ·have hz : (x == 0) = false := by simpa using z
  have hb : x.natAbs < 10 ^ 19 := by have : (10 : Nat) ^ 19 = 10000000000000000000 := rfl; omega
  have hl := fun b => xw b 19 x [] h.1 h.2 hb (by simp) 9223372036854775808 (by omega)
  have e0 : ofTx [] = ByteArray.empty := rfl
  rw [e0] at hl
  have dl := FU _ hb
  rw [hz, cond_false, hl, hl]
  simp only [List.append_nil, Option.bind_some]
  have sz : ∀ l : List UInt8, (ofTx l).size = l.length := fun l => co _
  have hd : qk x.natAbs = Lib.decDigits x.natAbs := by unfold qk; rw [if_neg (by omega)]
  by_cases c : x < 0
  ·have e1 : (⟨#[45]⟩ : ByteArray) = ofTx [45] := rfl
   rw [decide_eq_true c, cond_true, if_pos c, e1, if_pos (by rw [sz, sz]; simp [bL]; omega), lc, hd]
   rfl
  ·have e2 : x.natAbs = x.toNat := by omega
   rw [decide_eq_false c, cond_false, if_neg c, hd, e2]
   rfl
theorem lu (x0 : Int) (h : -9223372036854775808 ≤ x0 ∧ x0 ≤ 9223372036854775807) : Does E 46 [.one (tI x0)] [(false, [tS (aI x0)])] := by
 exact Cw x0 _ (ED x0 h)
inductive rh where
 | ret (v2 : List ByteArray) (v3 : Bool)
 | x0 (v4 : List ByteArray)
def bE (v0 : ByteArray) (v4 : List ByteArray) (v5 v6 : Int) : US := stL 62 [(0, .one (tS v0)), (4, .one (.s .own () 1 (v4.map etS))), (5, .one (tI v5)), (6, .one (tI v6))]
def ie (zv2 : List ByteArray) (zv3 : Bool) : US := stL 62 [(2, .one (.s .own () 1 (zv2.map etS))), (3, .one (tB zv3))]
def ja (zv4 : List ByteArray) : US := stL 62 [(4, .one (.s .own () 1 (zv4.map etS)))]
abbrev dZ : US → Exit → US → Prop := Round E 25 (aB Tryz.f25 0)
def Bi (v0 : ByteArray) (v4 : List ByteArray) (v5 v6 : Int) : rh → Prop
 | .ret zv2 zv3 => Loops E 25 (aB Tryz.f25 0) (bE v0 v4 v5 v6) .ret (ie zv2 zv3)
 | .x0 zv4 => Loops E 25 (aB Tryz.f25 0) (bE v0 v4 v5 v6) (.exit 0) (ja zv4)
theorem wQ (v0 : ByteArray) (v4 : List ByteArray) (v5 v6 : Int) (h0 : (decide (v6 ≤ (v0.size : Int))) = true) (h1 : (decide (v6 < (v0.size : Int))) = true) (h2 : 0 ≤ v6 ∧ v6 < (v0.size : Int)) (h3 : (decide ((aA v0 v6) < (32 : Int))) = true) : dZ (bE v0 v4 v5 v6) .ret (ie ([]) false) :=
 IV [.b true, .b true, .b true] _ (fun k => by kernel_rfl) (AC h0 <| AC h1 <| AC h2 <| AC h3 <| AN)
theorem wR (v0 : ByteArray) (v4 : List ByteArray) (v5 v6 : Int) (h0 : (decide (v6 ≤ (v0.size : Int))) = true) (h1 : (decide (v6 < (v0.size : Int))) = true) (h2 : 0 ≤ v6 ∧ v6 < (v0.size : Int)) (h3 : (decide ((aA v0 v6) < (32 : Int))) = false) (h4 : (decide ((aA v0 v6) > (126 : Int))) = true) : dZ (bE v0 v4 v5 v6) .ret (ie ([]) false) :=
 IV [.b true, .b true, .b false, .b true] _ (fun k => by kernel_rfl) (AC h0 <| AC h1 <| AC h2 <| AC h3 <| AC h2 <| AC h4 <| AN)
theorem wS (v0 : ByteArray) (v4 : List ByteArray) (v5 v6 : Int) (h0 : (decide (v6 ≤ (v0.size : Int))) = true) (h1 : (decide (v6 < (v0.size : Int))) = true) (h2 : 0 ≤ v6 ∧ v6 < (v0.size : Int)) (h3 : (decide ((aA v0 v6) < (32 : Int))) = false) (h4 : (decide ((aA v0 v6) > (126 : Int))) = false) (h5 : ((aA v0 v6) != (32 : Int)) = true) : dZ (bE v0 v4 v5 v6) .normal (bE v0 v4 v5 (inc v6)) :=
 IV [.b true, .b true, .b false, .b false, .b true, .b true] _ (fun k => by kernel_rfl) (AC h0 <| AC h1 <| AC h2 <| AC h3 <| AC h2 <| AC h4 <| AC h1 <| AC h2 <| AC h5 <| AN)
theorem wT (v0 : ByteArray) (v4 : List ByteArray) (v5 v6 : Int) (h0 : (decide (v6 ≤ (v0.size : Int))) = true) (h1 : (decide (v6 < (v0.size : Int))) = true) (h2 : 0 ≤ v6 ∧ v6 < (v0.size : Int)) (h3 : (decide ((aA v0 v6) < (32 : Int))) = false) (h4 : (decide ((aA v0 v6) > (126 : Int))) = false) (h5 : ((aA v0 v6) != (32 : Int)) = false) (h6 : (decide (v5 < v6)) = true) (h7 : 0 ≤ v5 ∧ v5 ≤ v6 ∧ v6 ≤ (v0.size : Int)) (h8 : (v4.length + ([v0.extract v5.toNat v6.toNat]).length) * 16 ≤ 140737488355328 ∧ v4.length + ([v0.extract v5.toNat v6.toNat]).length ≤ 4611686018427387904) : dZ (bE v0 v4 v5 v6) .normal (bE v0 (v4 ++ ([v0.extract v5.toNat v6.toNat])) (inc v6) (inc v6)) :=
 IV [.b true, .b true, .b false, .b false, .b true, .b false, .b true, .rows ((v4 ++ ([v0.extract v5.toNat v6.toNat])).map etS)] _ (fun k => by kernel_rfl) (AC h0 <| AC h1 <| AC h2 <| AC h3 <| AC h2 <| AC h4 <| AC h1 <| AC h2 <| AC h5 <| AC h6 <| AC h7 <| AC (p := (((([v0.extract v5.toNat v6.toNat]).map etS).drop 0).take (([v0.extract v5.toNat v6.toNat]).map etS).length).all (fun r => r.all T.flat) = true ∧ ((v4.map etS).length + (((([v0.extract v5.toNat v6.toNat]).map etS).drop 0).take (([v0.extract v5.toNat v6.toNat]).map etS).length).length) * 16 ≤ 140737488355328 ∧ (v4.map etS).length + (((([v0.extract v5.toNat v6.toNat]).map etS).drop 0).take (([v0.extract v5.toNat v6.toNat]).map etS).length).length ≤ 4611686018427387904) (by simp only [List.take_length, List.drop_zero]; exact ee (fun x => rfl) h8) <| AC (p := (v4.map etS) ++ (((([v0.extract v5.toNat v6.toNat]).map etS).drop 0).take (([v0.extract v5.toNat v6.toNat]).map etS).length) = (v4 ++ ([v0.extract v5.toNat v6.toNat])).map etS) (by simp only [List.take_length, List.drop_zero]; exact di) <| AN)
theorem wU (v0 : ByteArray) (v4 : List ByteArray) (v5 v6 : Int) (h0 : (decide (v6 ≤ (v0.size : Int))) = true) (h1 : (decide (v6 < (v0.size : Int))) = true) (h2 : 0 ≤ v6 ∧ v6 < (v0.size : Int)) (h3 : (decide ((aA v0 v6) < (32 : Int))) = false) (h4 : (decide ((aA v0 v6) > (126 : Int))) = false) (h5 : ((aA v0 v6) != (32 : Int)) = false) (h6 : (decide (v5 < v6)) = false) : dZ (bE v0 v4 v5 v6) .normal (bE v0 v4 (inc v6) (inc v6)) :=
 IV [.b true, .b true, .b false, .b false, .b true, .b false, .b false] _ (fun k => by kernel_rfl) (AC h0 <| AC h1 <| AC h2 <| AC h3 <| AC h2 <| AC h4 <| AC h1 <| AC h2 <| AC h5 <| AC h6 <| AN)
theorem wV (v0 : ByteArray) (v4 : List ByteArray) (v5 v6 : Int) (h0 : (decide (v6 ≤ (v0.size : Int))) = true) (h1 : (decide (v6 < (v0.size : Int))) = false) (h2 : (decide (v5 < v6)) = true) (h3 : 0 ≤ v5 ∧ v5 ≤ v6 ∧ v6 ≤ (v0.size : Int)) (h4 : (v4.length + ([v0.extract v5.toNat v6.toNat]).length) * 16 ≤ 140737488355328 ∧ v4.length + ([v0.extract v5.toNat v6.toNat]).length ≤ 4611686018427387904) : dZ (bE v0 v4 v5 v6) .normal (bE v0 (v4 ++ ([v0.extract v5.toNat v6.toNat])) (inc v6) (inc v6)) :=
 IV [.b true, .b false, .b false, .b true, .rows ((v4 ++ ([v0.extract v5.toNat v6.toNat])).map etS)] _ (fun k => by kernel_rfl) (AC h0 <| AC h1 <| AC h1 <| AC h2 <| AC h3 <| AC (p := (((([v0.extract v5.toNat v6.toNat]).map etS).drop 0).take (([v0.extract v5.toNat v6.toNat]).map etS).length).all (fun r => r.all T.flat) = true ∧ ((v4.map etS).length + (((([v0.extract v5.toNat v6.toNat]).map etS).drop 0).take (([v0.extract v5.toNat v6.toNat]).map etS).length).length) * 16 ≤ 140737488355328 ∧ (v4.map etS).length + (((([v0.extract v5.toNat v6.toNat]).map etS).drop 0).take (([v0.extract v5.toNat v6.toNat]).map etS).length).length ≤ 4611686018427387904) (by simp only [List.take_length, List.drop_zero]; exact ee (fun x => rfl) h4) <| AC (p := (v4.map etS) ++ (((([v0.extract v5.toNat v6.toNat]).map etS).drop 0).take (([v0.extract v5.toNat v6.toNat]).map etS).length) = (v4 ++ ([v0.extract v5.toNat v6.toNat])).map etS) (by simp only [List.take_length, List.drop_zero]; exact di) <| AN)
theorem wW (v0 : ByteArray) (v4 : List ByteArray) (v5 v6 : Int) (h0 : (decide (v6 ≤ (v0.size : Int))) = true) (h1 : (decide (v6 < (v0.size : Int))) = false) (h2 : (decide (v5 < v6)) = false) : dZ (bE v0 v4 v5 v6) .normal (bE v0 v4 (inc v6) (inc v6)) :=
 IV [.b true, .b false, .b false, .b false] _ (fun k => by kernel_rfl) (AC h0 <| AC h1 <| AC h1 <| AC h2 <| AN)
theorem wX (v0 : ByteArray) (v4 : List ByteArray) (v5 v6 : Int) (h0 : (decide (v6 ≤ (v0.size : Int))) = false) : dZ (bE v0 v4 v5 v6) (.exit 0) (ja v4) :=
 IV [.b false] _ (fun k => by kernel_rfl) (AC h0 <| AN)
noncomputable def ci (v0 : ByteArray) : Nat → (List ByteArray) → Int → Int → Option rh
 | 0, _, _, _ => none
 | n + 1, v4, v5, v6 => cond (decide (v6 ≤ (v0.size : Int)))
  (cond (decide (v6 < (v0.size : Int)))
   (if 0 ≤ v6 ∧ v6 < (v0.size : Int) then cond (decide ((aA v0 v6) < (32 : Int)))
    (some (.ret ([]) false))
    (cond (decide ((aA v0 v6) > (126 : Int)))
     (some (.ret ([]) false))
     (cond ((aA v0 v6) != (32 : Int))
      (ci v0 n v4 v5 (inc v6))
      (cond (decide (v5 < v6))
       (if 0 ≤ v5 ∧ v5 ≤ v6 ∧ v6 ≤ (v0.size : Int) then if (v4.length + ([v0.extract v5.toNat v6.toNat]).length) * 16 ≤ 140737488355328 ∧ v4.length + ([v0.extract v5.toNat v6.toNat]).length ≤ 4611686018427387904 then ci v0 n (v4 ++ ([v0.extract v5.toNat v6.toNat])) (inc v6) (inc v6) else none else none)
       (ci v0 n v4 (inc v6) (inc v6))))) else none)
   (cond (decide (v5 < v6))
    (if 0 ≤ v5 ∧ v5 ≤ v6 ∧ v6 ≤ (v0.size : Int) then if (v4.length + ([v0.extract v5.toNat v6.toNat]).length) * 16 ≤ 140737488355328 ∧ v4.length + ([v0.extract v5.toNat v6.toNat]).length ≤ 4611686018427387904 then ci v0 n (v4 ++ ([v0.extract v5.toNat v6.toNat])) (inc v6) (inc v6) else none else none)
    (ci v0 n v4 (inc v6) (inc v6))))
  (some (.x0 v4))
theorem Bh (v0 : ByteArray) (n : Nat) : ∀ (v4 : List ByteArray) (v5 v6 : Int), Ans (ci v0 n v4 v5 v6) (Bi v0 v4 v5 v6) := by
 induction n with
 | zero => intros; exact Ans.none
 | succ n ih =>
  intro v4 v5 v6
  unfold ci
  refine I3 (fun h0 => ?_) (fun h0 => ?_)
  ·refine I3 (fun h1 => ?_) (fun h1 => ?_)
   ·refine I5 (fun h2 => ?_)
    refine I3 (fun h3 => ?_) (fun h3 => ?_)
    ·exact IX (IZ (wQ v0 v4 v5 v6 h0 h1 h2 h3) (by intro h; cases h))
    ·refine I3 (fun h4 => ?_) (fun h4 => ?_)
     ·exact IX (IZ (wR v0 v4 v5 v6 h0 h1 h2 h3 h4) (by intro h; cases h))
     ·refine I3 (fun h5 => ?_) (fun h5 => ?_)
      ·exact (ih v4 v5 (inc v6)).mono fun y hy => by cases y <;> exact IY (wS v0 v4 v5 v6 h0 h1 h2 h3 h4 h5) hy
      ·refine I3 (fun h6 => ?_) (fun h6 => ?_)
       ·refine I5 (fun h7 => ?_)
        refine I5 (fun h8 => ?_)
        exact (ih (v4 ++ ([v0.extract v5.toNat v6.toNat])) (inc v6) (inc v6)).mono fun y hy => by cases y <;> exact IY (wT v0 v4 v5 v6 h0 h1 h2 h3 h4 h5 h6 h7 h8) hy
       ·exact (ih v4 (inc v6) (inc v6)).mono fun y hy => by cases y <;> exact IY (wU v0 v4 v5 v6 h0 h1 h2 h3 h4 h5 h6) hy
   ·refine I3 (fun h2 => ?_) (fun h2 => ?_)
    ·refine I5 (fun h3 => ?_)
     refine I5 (fun h4 => ?_)
     exact (ih (v4 ++ ([v0.extract v5.toNat v6.toNat])) (inc v6) (inc v6)).mono fun y hy => by cases y <;> exact IY (wV v0 v4 v5 v6 h0 h1 h2 h3 h4) hy
    ·exact (ih v4 (inc v6) (inc v6)).mono fun y hy => by cases y <;> exact IY (wW v0 v4 v5 v6 h0 h1 h2) hy
  ·exact IX (IZ (wX v0 v4 v5 v6 h0) (by intro h; cases h))
noncomputable def lF (x0 : ByteArray) : Option ((List ByteArray) × Bool) :=
  cond (decide ((x0.size : Int) > (600 : Int)))
   (some (([] : List ByteArray), false))
   ((ci x0 9223372036854775808 ([]) (0 : Int) (0 : Int)).bind fun y => match y with
    | .ret w0_2 w0_3 => (some (w0_2, w0_3))
    | .x0 w0_4 => (cond (decide ((w0_4.length : Int) > (10 : Int)))
     (some (([] : List ByteArray), false))
     (some (w0_4, true))))
theorem CA (x0 : ByteArray) : Ans (lF x0) (fun r => Does E 25 [.one (tS x0)] [(false, [.s .own () 1 (r.1.map etS)]), (false, [tB r.2])]) := by
 unfold lF
 refine I3 (fun h0 => ?_) (fun h0 => ?_)
 ·exact IX (IW (fn := Tryz.f25) [.b true] _ rfl (fun _ => rfl) (fun k => by kernel_rfl) (AC h0 <| AN))
 ·refine I4 (fun y hy => ?_)
  replace hy := Bh x0 9223372036854775808 ([]) (0 : Int) (0 : Int) y hy
  cases y with
  | ret w0_2 w0_3 =>
   have h1 := hy
   exact IX (IW (fn := Tryz.f25) [.b false, .lp .ret (ie w0_2 w0_3)] _ rfl (fun _ => rfl) (fun k => by kernel_rfl) (AC h0 <| AL h1 <| AN))
  | x0 w0_4 =>
   have h1 := hy
   refine I3 (fun h2 => ?_) (fun h2 => ?_)
   ·exact IX (IW (fn := Tryz.f25) [.b false, .lp (.exit 0) (ja w0_4), .val (.int .i64 (w0_4.length : Int)), .b true] _ rfl (fun _ => rfl) (fun k => by kernel_rfl) (AC h0 <| AL h1 <| AC (p := ((w0_4.map etS).length : Int) = (w0_4.length : Int)) ag <| AC h2 <| AN))
   ·exact IX (IW (fn := Tryz.f25) [.b false, .lp (.exit 0) (ja w0_4), .val (.int .i64 (w0_4.length : Int)), .b false] _ rfl (fun _ => rfl) (fun k => by kernel_rfl) (AC h0 <| AL h1 <| AC (p := ((w0_4.map etS).length : Int) = (w0_4.length : Int)) ag <| AC h2 <| AN))
inductive qC where
 | x2 (v5 : List ByteArray)
def fN (v5 v28 : List ByteArray) (v29 v30 : Int) : US := stL 45 [(5, .one (.s .own () 1 (v5.map etS))), (28, .one (.s .own () 1 (v28.map etS))), (29, .one (tI v29)), (30, .one (tI v30))]
def iU (zv5 : List ByteArray) : US := stL 45 [(5, .one (.s .own () 1 (zv5.map etS)))]
abbrev mM : US → Exit → US → Prop := Round E 48 (aB Tryz.f48 1)
def Aw (v5 v28 : List ByteArray) (v29 v30 : Int) : qC → Prop
 | .x2 zv5 => Loops E 48 (aB Tryz.f48 1) (fN v5 v28 v29 v30) (.exit 2) (iU zv5)
theorem wh (v5 v28 : List ByteArray) (v29 v30 : Int) (g0 : ByteArray) (h0 : (decide (v30 < v29)) = true) (h1 : am v28 v30 = some g0) (h2 : (!(g0.toList == ByteArray.empty.toList)) = true) (h3 : (v5.length + ([g0]).length) * 16 ≤ 140737488355328 ∧ v5.length + ([g0]).length ≤ 4611686018427387904) : mM (fN v5 v28 v29 v30) .normal (fN (v5 ++ ([g0])) v28 v29 (inc v30)) :=
 IV [.b true, .row (etS g0), .b true, .rows ((v5 ++ ([g0])).map etS)] _ (fun k => by kernel_rfl) (AC h0 <| AC (p := 0 ≤ v30 ∧ v30 < ((v28.map etS).length : Int)) (aF h1) <| AC (p := (v28.map etS)[0 + v30.toNat]? = some (etS g0)) (au h1) <| AC h2 <| AC (p := (((([g0]).map etS).drop 0).take (([g0]).map etS).length).all (fun r => r.all T.flat) = true ∧ ((v5.map etS).length + (((([g0]).map etS).drop 0).take (([g0]).map etS).length).length) * 16 ≤ 140737488355328 ∧ (v5.map etS).length + (((([g0]).map etS).drop 0).take (([g0]).map etS).length).length ≤ 4611686018427387904) (by simp only [List.take_length, List.drop_zero]; exact ee (fun x => rfl) h3) <| AC (p := (v5.map etS) ++ (((([g0]).map etS).drop 0).take (([g0]).map etS).length) = (v5 ++ ([g0])).map etS) (by simp only [List.take_length, List.drop_zero]; exact di) <| AN)
theorem wi (v5 v28 : List ByteArray) (v29 v30 : Int) (g0 : ByteArray) (h0 : (decide (v30 < v29)) = true) (h1 : am v28 v30 = some g0) (h2 : (!(g0.toList == ByteArray.empty.toList)) = false) : mM (fN v5 v28 v29 v30) .normal (fN v5 v28 v29 (inc v30)) :=
 IV [.b true, .row (etS g0), .b false] _ (fun k => by kernel_rfl) (AC h0 <| AC (p := 0 ≤ v30 ∧ v30 < ((v28.map etS).length : Int)) (aF h1) <| AC (p := (v28.map etS)[0 + v30.toNat]? = some (etS g0)) (au h1) <| AC h2 <| AN)
theorem wj (v5 v28 : List ByteArray) (v29 v30 : Int) (h0 : (decide (v30 < v29)) = false) : mM (fN v5 v28 v29 v30) (.exit 2) (iU v5) :=
 IV [.b false] _ (fun k => by kernel_rfl) (AC h0 <| AN)
noncomputable def dz  : List ByteArray → Nat → (List ByteArray) → Option qC
 | [], i, v5 => some (.x2 v5)
 | hd :: rest, i, v5 => cond (!(hd.toList == ByteArray.empty.toList))
  (if (v5.length + ([hd]).length) * 16 ≤ 140737488355328 ∧ v5.length + ([hd]).length ≤ 4611686018427387904 then dz rest (i + 1) (v5 ++ ([hd])) else none)
  (dz rest (i + 1) v5)
theorem Au (v28 : List ByteArray) (rest : List ByteArray) : ∀ (i : Nat) (v5 : List ByteArray), (v28).drop i = rest → v28.length ≤ 9223372036854775807 → Ans (dz rest i v5) (Aw v5 v28 (v28.length : Int) (i : Int)) := by
 induction rest with
 | nil =>
  intro i v5 hE hl
  have hb := bH hE
  unfold dz
  exact IX (IZ (wj v5 v28 (v28.length : Int) (i : Int) hb) (by intro h; cases h))
 | cons hd rest ih =>
  intro i v5 hE hl
  have hb := bh hE
  have hw := bi hE hl
  have hE2 := aK hE
  have hg := bq hE
  unfold dz
  refine I3 (fun h2 => ?_) (fun h2 => ?_)
  ·refine I5 (fun h3 => ?_)
   exact (ih (i + 1) (v5 ++ ([hd])) hE2 hl).mono fun y hy => by have r := wh v5 v28 (v28.length : Int) (i : Int) hd hb hg h2 h3; rw [hw] at r; cases y <;> exact IY r hy
  ·exact (ih (i + 1) v5 hE2 hl).mono fun y hy => by have r := wi v5 v28 (v28.length : Int) (i : Int) hd hb hg h2; rw [hw] at r; cases y <;> exact IY r hy
inductive qB where
 | ret (v2 : List ByteArray) (v3 : Bool)
 | x0 
def eT (v0 : ByteArray) (v4 : Int) : US := stL 45 [(0, .one (tS v0)), (4, .one (tI v4))]
def hY (zv2 : List ByteArray) (zv3 : Bool) : US := stL 45 [(2, .one (.s .own () 1 (zv2.map etS))), (3, .one (tB zv3))]
def iT (v0 : ByteArray) : US := stL 45 [(0, .one (tS v0))]
abbrev kv : US → Exit → US → Prop := Round E 48 (aB Tryz.f48 0)
def Av (v0 : ByteArray) (v4 : Int) : qB → Prop
 | .ret zv2 zv3 => Loops E 48 (aB Tryz.f48 0) (eT v0 v4) .ret (hY zv2 zv3)
 | .x0 => Loops E 48 (aB Tryz.f48 0) (eT v0 v4) (.exit 0) (iT v0)
theorem wc (v0 : ByteArray) (v4 : Int) (h0 : (decide (v4 < (v0.size : Int))) = true) (h1 : 0 ≤ v4 ∧ v4 < (v0.size : Int)) (h2 : (decide ((aA v0 v4) < (32 : Int))) = true) : kv (eT v0 v4) .ret (hY ([]) false) :=
 IV [.b true, .b true] _ (fun k => by kernel_rfl) (AC h0 <| AC h1 <| AC h2 <| AN)
theorem wd (v0 : ByteArray) (v4 : Int) (h0 : (decide (v4 < (v0.size : Int))) = true) (h1 : 0 ≤ v4 ∧ v4 < (v0.size : Int)) (h2 : (decide ((aA v0 v4) < (32 : Int))) = false) (h3 : (decide ((aA v0 v4) > (126 : Int))) = true) : kv (eT v0 v4) .ret (hY ([]) false) :=
 IV [.b true, .b false, .b true] _ (fun k => by kernel_rfl) (AC h0 <| AC h1 <| AC h2 <| AC h1 <| AC h3 <| AN)
theorem we (v0 : ByteArray) (v4 : Int) (h0 : (decide (v4 < (v0.size : Int))) = true) (h1 : 0 ≤ v4 ∧ v4 < (v0.size : Int)) (h2 : (decide ((aA v0 v4) < (32 : Int))) = false) (h3 : (decide ((aA v0 v4) > (126 : Int))) = false) : kv (eT v0 v4) .normal (eT v0 (inc v4)) :=
 IV [.b true, .b false, .b false] _ (fun k => by kernel_rfl) (AC h0 <| AC h1 <| AC h2 <| AC h1 <| AC h3 <| AN)
theorem wg (v0 : ByteArray) (v4 : Int) (h0 : (decide (v4 < (v0.size : Int))) = false) : kv (eT v0 v4) (.exit 0) (iT v0) :=
 IV [.b false] _ (fun k => by kernel_rfl) (AC h0 <| AN)
noncomputable def eU  : List Int → Nat → Option qB
 | [], i => some (.x0)
 | hd :: rest, i => cond (decide (hd < (32 : Int)))
  (some (.ret ([]) false))
  (cond (decide (hd > (126 : Int)))
   (some (.ret ([]) false))
   (eU rest (i + 1)))
theorem At (v0 : ByteArray) (rest : List Int) : ∀ (i : Nat) , (bu v0).drop i = rest → v0.size ≤ 9223372036854775807 → Ans (eU rest i) (Av v0 (i : Int)) := by
 induction rest with
 | nil =>
  intro i hE hl
  have hb := mI hE
  unfold eU
  exact IX (IZ (wg v0 (i : Int) hb) (by intro h; cases h))
 | cons hd rest ih =>
  intro i hE hl
  have hb := lN hE
  have hw := lO hE hl
  have hE2 := aK hE
  have hp := og hE
  obtain rfl := of hE
  unfold eU
  refine I3 (fun h2 => ?_) (fun h2 => ?_)
  ·exact IX (IZ (wc v0 (i : Int) hb hp h2) (by intro h; cases h))
  ·refine I3 (fun h3 => ?_) (fun h3 => ?_)
   ·exact IX (IZ (wd v0 (i : Int) hb hp h2 h3) (by intro h; cases h))
   ·exact (ih (i + 1) hE2 hl).mono fun y hy => by have r := we v0 (i : Int) hb hp h2 h3; rw [hw] at r; cases y <;> exact IY r hy
noncomputable def lz (x0 : ByteArray) : Option ((List ByteArray) × Bool) :=
  cond (decide ((x0.size : Int) > (600 : Int)))
   (some (([] : List ByteArray), false))
   (if x0.size ≤ 9223372036854775807 then (eU (bu x0) 0).bind fun y => match y with
    | .ret w0_2 w0_3 => (some (w0_2, w0_3))
    | .x0 => (if x0.size < 4294967281 then if 1 ≤ (⟨#[32]⟩ : ByteArray).size then if (cd x0 (⟨#[32]⟩ : ByteArray)).length ≤ 9223372036854775807 then (dz (cd x0 (⟨#[32]⟩ : ByteArray)) 0 ([])).bind fun y => match y with
     | .x2 w1_5 => (cond (decide ((w1_5.length : Int) > (10 : Int)))
      (some (([] : List ByteArray), false))
      (some (w1_5, true))) else none else none else none) else none)
theorem Ch (x0 : ByteArray) : Ans (lz x0) (fun r => Does E 48 [.one (tS x0)] [(false, [.s .own () 1 (r.1.map etS)]), (false, [tB r.2])]) := by
 unfold lz
 refine I3 (fun h0 => ?_) (fun h0 => ?_)
 ·exact IX (IW (fn := Tryz.f48) [.b true] _ rfl (fun _ => rfl) (fun k => by kernel_rfl) (AC h0 <| AN))
 ·refine I5 (fun hl2 => ?_)
  refine I4 (fun y hy => ?_)
  replace hy := At x0 (bu x0) 0 rfl hl2 y hy
  cases y with
  | ret w0_2 w0_3 =>
   have h1 := hy
   exact IX (IW (fn := Tryz.f48) [.b false, .lp .ret (hY w0_2 w0_3)] _ rfl (fun _ => rfl) (fun k => by kernel_rfl) (AC h0 <| AL h1 <| AN))
  | x0 =>
   have h1 := hy
   refine I5 (fun h2 => ?_)
   refine I5 (fun h3 => ?_)
   refine I5 (fun hl3 => ?_)
   refine I4 (fun y hy => ?_)
   replace hy := Au (cd x0 (⟨#[32]⟩ : ByteArray)) (cd x0 (⟨#[32]⟩ : ByteArray)) 0 ([]) rfl hl3 y hy
   cases y with
   | x2 w1_5 =>
    have h4 := hy
    refine I3 (fun h5 => ?_) (fun h5 => ?_)
    ·exact IX (IW (fn := Tryz.f48) [.b false, .lp (.exit 0) (iT x0), .ret [(false, [.s .own () 1 ((cd x0 (⟨#[32]⟩ : ByteArray)).map etS)])], .val (.int .i64 ((cd x0 (⟨#[32]⟩ : ByteArray)).length : Int)), .lp (.exit 2) (iU w1_5), .val (.int .i64 (w1_5.length : Int)), .b true] _ rfl (fun _ => rfl) (fun k => by kernel_rfl) (AC h0 <| AL h1 <| AD (hU x0 (⟨#[32]⟩ : ByteArray) h2 h3) <| AC (p := (((cd x0 (⟨#[32]⟩ : ByteArray)).map etS).length : Int) = ((cd x0 (⟨#[32]⟩ : ByteArray)).length : Int)) ag <| AL h4 <| AC (p := ((w1_5.map etS).length : Int) = (w1_5.length : Int)) ag <| AC h5 <| AN))
    ·exact IX (IW (fn := Tryz.f48) [.b false, .lp (.exit 0) (iT x0), .ret [(false, [.s .own () 1 ((cd x0 (⟨#[32]⟩ : ByteArray)).map etS)])], .val (.int .i64 ((cd x0 (⟨#[32]⟩ : ByteArray)).length : Int)), .lp (.exit 2) (iU w1_5), .val (.int .i64 (w1_5.length : Int)), .b false] _ rfl (fun _ => rfl) (fun k => by kernel_rfl) (AC h0 <| AL h1 <| AD (hU x0 (⟨#[32]⟩ : ByteArray) h2 h3) <| AC (p := (((cd x0 (⟨#[32]⟩ : ByteArray)).map etS).length : Int) = ((cd x0 (⟨#[32]⟩ : ByteArray)).length : Int)) ag <| AL h4 <| AC (p := ((w1_5.map etS).length : Int) = (w1_5.length : Int)) ag <| AC h5 <| AN))
def okB (b : UInt8) : Bool := decide (32 ≤ b.toNat) && decide (b.toNat ≤ 126)
theorem Fe {b : UInt8} (h : b.toNat < 32) : okB b = false := by unfold okB; rw [decide_eq_false (by omega)]; rfl
theorem Fc {b : UInt8} (h : 126 < b.toNat) : okB b = false := by unfold okB; rw [decide_eq_false (by omega : ¬ b.toNat ≤ 126), Bool.and_false]
theorem Fd {b : UInt8} (h : ¬ b.toNat < 32) (h2 : ¬ 126 < b.toNat) : okB b = true := by unfold okB; rw [decide_eq_true (by omega), decide_eq_true (by omega)]; rfl
def aL (x : ByteArray) : Bool := !(x.toList == ByteArray.empty.toList)
noncomputable def an (s : ByteArray) : List ByteArray × Bool :=
 if 600 < s.size then ([], false) else if (tx s).all okB = true then (if 10 < (((bo 32 (tx s)).map ofTx).filter aL).length then ([], false) else (((bo 32 (tx s)).map ofTx).filter aL, true)) else ([], false)
theorem Ab (l : List UInt8) : aL (ofTx l) = !l.isEmpty := by
 unfold aL
 rw [mz]
 have : tx ByteArray.empty = [] := rfl
 rw [this, oJ]
 cases l <;> rfl
theorem vr (s : ByteArray) (c : UInt8) : cd s ⟨#[c]⟩ = (bo c (tx s)).map ofTx := CE s c
theorem mr (s : ByteArray) : bu s = (tx s).map fun b => (b.toNat : Int) := rfl
theorem zG {s : ByteArray} {i : Nat} {b : UInt8} (h : (tx s)[i]? = some b) : aA s (i : Int) = (b.toNat : Int) := by
 have hi : i < s.size := by
  rw [co]
  rcases Nat.lt_or_ge i (tx s).length with g | g
  ·exact g
  ·rw [List.getElem?_eq_none g] at h; cases h
 have := nT s i hi
 rw [mr, List.getElem?_map, h] at this
 exact (Option.some.inj this).symm
theorem Fi : ∀ (l : List UInt8) (i : Nat), eU (l.map fun b => (b.toNat : Int)) i = some (if l.all okB = true then .x0 else .ret [] false)
 | [], i => rfl
 | b :: l, i => by
  rw [List.map_cons]
  unfold eU
  rw [Fi l (i + 1), List.all_cons]
  by_cases h : b.toNat < 32
  ·rw [decide_eq_true (by omega), Fe h]; rfl
  ·rw [decide_eq_false (by omega), cond_false]
   by_cases h' : 126 < b.toNat
   ·rw [decide_eq_true (by omega), Fc h']; rfl
   ·rw [decide_eq_false (by omega), Fd h h']; rfl
theorem A0 : ∀ (l : List ByteArray) (i : Nat) (v : List ByteArray), v.length + l.length ≤ 4000000 → dz l i v = some (.x2 (v ++ l.filter aL))
 | [], i, v, _ => by unfold dz; simp
 | x :: l, i, v, h => by
  simp only [List.length_cons] at h
  unfold dz
  have e : (!(x.toList == ByteArray.empty.toList)) = aL x := rfl
  rw [e]
  cases q : aL x with
  | true =>
   rw [cond_true, if_pos (by simp; omega), A0 l (i + 1) _ (by simp; omega), List.filter_cons, q]; simp
  | false =>
   rw [cond_false, A0 l (i + 1) v (by omega), List.filter_cons, q]; simp
theorem Fj (s : ByteArray) : lz s = some (an s) := by
 unfold lz an
 by_cases h : 600 < s.size
 ·rw [decide_eq_true (by omega), if_pos h]; rfl
 ·have hl := sR 32 (tx s)
  rw [← co] at hl
  rw [decide_eq_false (by omega), if_neg h, cond_false, if_pos (by omega), mr, Fi]
  by_cases q : (tx s).all okB = true
  ·rw [if_pos q, if_pos q, Option.bind_some]
   simp only
   rw [if_pos (by omega), if_pos (by decide), vr, if_pos (by simp; omega), A0 _ _ _ (by simp; omega), Option.bind_some]
   simp only [List.nil_append]
   by_cases r : 10 < (((bo 32 (tx s)).map ofTx).filter aL).length
   ·rw [decide_eq_true (by omega), if_pos r]; rfl
   ·rw [decide_eq_false (by omega), if_neg r]; rfl
  ·rw [if_neg q, if_neg q]; rfl
theorem Ac {l : List UInt8} {i : Nat} (h : i < l.length) : ∃ b r, l.drop i = b :: r ∧ l[i]? = some b ∧ l.drop (i + 1) = r := by
 refine ⟨l[i], l.drop (i + 1), List.drop_eq_getElem_cons h, List.getElem?_eq_getElem h, rfl⟩
theorem Fl (s : ByteArray) (hs : s.size ≤ 2000000) : ∀ (m i a : Nat) (v : List ByteArray) (n : Nat), i + m = (tx s).length → m + 1 < n → a ≤ i → v.length + m ≤ 2000000 →
  ci s n v (a : Int) (i : Int) = some (if ((tx s).drop i).all okB = true then .x0 (v ++ ((e8 (seg (tx s) a i) (bo 32 ((tx s).drop i))).map ofTx).filter aL) else .ret [] false)
 | m, i, a, v, n, hi, hn, ha, hv => by
  obtain ⟨n, rfl⟩ : ∃ k, n = k + 2 := ⟨n - 2, by omega⟩
  have hsz := co s
  unfold ci
  rw [decide_eq_true (by omega : (i : Int) ≤ (s.size : Int)), cond_true]
  have hinc : inc (i : Int) = ((i + 1 : Nat) : Int) := by rw [mO _ (by omega) (by omega)]; omega
  cases m with
  | zero =>
   have hd : (tx s).drop i = [] := List.drop_eq_nil_of_le (by omega)
   have stop : ∀ w b, ci s (n + 1) w b ((i + 1 : Nat) : Int) = some (.x0 w) := fun w b => by
    unfold ci
    rw [decide_eq_false (by omega)]; rfl
   have hc : e8 (seg (tx s) a i) (bo 32 ([] : List UInt8)) = [seg (tx s) a i] := by simp [bo, e8]
   have hf : ([seg (tx s) a i].map ofTx).filter aL = if a = i then [] else [s.extract a i] := by
    rw [List.map_cons, List.map_nil, List.filter_cons, Ab, C3 ha (by omega), jq]
    by_cases q : a = i
    ·rw [if_pos q, decide_eq_true q]; rfl
    ·rw [if_neg q, decide_eq_false q]; rfl
   rw [decide_eq_false (by omega : ¬ (i : Int) < (s.size : Int)), cond_false, hinc, hd, hc, hf, List.all_nil, if_pos rfl]
   by_cases q : a = i
   ·rw [decide_eq_false (by omega), cond_false, stop, if_pos q, List.append_nil]
   ·rw [decide_eq_true (by omega), cond_true, if_pos (by omega), if_pos (by simp; omega), stop, if_neg q]; rfl
  | succ m =>
   obtain ⟨b, r, hd, hg, hr⟩ := Ac (l := tx s) (i := i) (by omega)
   have hb := zG hg
   have ih := fun a' v' (h1 : a' ≤ i + 1) (h2 : v'.length + m ≤ 2000000) => Fl s hs m (i + 1) a' v' (n + 1) (by omega) (by omega) h1 h2
   rw [hr] at ih
   rw [decide_eq_true (by omega : (i : Int) < (s.size : Int)), cond_true, if_pos (by omega), hb, hinc, hd, List.all_cons]
   have bl := b.toNat_lt
   by_cases h : b.toNat < 32
   ·rw [decide_eq_true (by omega : ((b.toNat : Int) < 32)), cond_true, Fe h]; rfl
   ·rw [decide_eq_false (by omega : ¬ ((b.toNat : Int) < 32)), cond_false]
    by_cases h' : 126 < b.toNat
    ·rw [decide_eq_true (by omega : ((b.toNat : Int) > 126)), cond_true, Fc h']; rfl
    ·rw [decide_eq_false (by omega : ¬ ((b.toNat : Int) > 126)), cond_false, Fd h h', Bool.true_and]
     by_cases q : b = 32
     ·subst q
      have e : (((32 : UInt8).toNat : Int) != 32) = false := by decide
      rw [e, cond_false, mF]
      have hgl : e8 (seg (tx s) a i) ([] :: bo 32 r) = seg (tx s) a i :: bo 32 r := by simp [e8]
      rw [hgl, List.map_cons, List.filter_cons, Ab, C3 ha (by omega)]
      have hz : e8 (seg (tx s) (i + 1) (i + 1)) (bo 32 r) = bo 32 r := by rw [m4]; exact o5 _ (fa _ _)
      by_cases q : a = i
      ·have := ih (i + 1) v (by omega) (by omega)
       rw [hz] at this
       rw [decide_eq_false (by omega), cond_false, this, decide_eq_true q]; rfl
      ·have := ih (i + 1) (v ++ [s.extract a i]) (by omega) (by simp; omega)
       rw [hz] at this
       rw [decide_eq_true (by omega), cond_true, if_pos (by omega), if_pos (by simp; omega)]
       rw [show ((a : Int).toNat) = a by omega, show ((i : Int).toNat) = i by omega, this, decide_eq_false q, jq]
       simp
     ·have e : ((b.toNat : Int) != 32) = true := by
       rw [bne_iff_ne]
       intro h
       exact q (UInt8.toNat_inj.1 (by show b.toNat = 32; omega))
      rw [e, cond_true, ih a v (by omega) (by omega), jZ q, xG _ _ _ (fa _ _), ← BB ha hg]
theorem Fk (s : ByteArray) : lF s = some (an s) := by
 unfold lF an
 by_cases h : 600 < s.size
 ·rw [decide_eq_true (by omega), if_pos h]; rfl
 ·have hz : e8 (seg (tx s) 0 0) (bo 32 (tx s)) = bo 32 (tx s) := by rw [m4]; exact o5 _ (fa _ _)
  have e := Fl s (by omega) (tx s).length 0 0 [] 9223372036854775808 (by omega) (by rw [← co]; omega) (by omega) (by rw [← co]; simp; omega)
  rw [List.drop_zero, hz, List.nil_append] at e
  rw [decide_eq_false (by omega), if_neg h, cond_false]
  refine (congrArg (Option.bind · _) e).trans ?_
  by_cases q : (tx s).all okB = true
  ·rw [if_pos q, if_pos q, Option.bind_some]
   simp only
   by_cases r : 10 < (((bo 32 (tx s)).map ofTx).filter aL).length
   ·rw [decide_eq_true (by omega), if_pos r]; rfl
   ·rw [decide_eq_false (by omega), if_neg r]; rfl
  ·rw [if_neg q, if_neg q]; rfl
theorem nP {s p : ByteArray} (h : p ∈ (an s).1) : p.size ≤ 600 := by
 unfold an at h
 split at h
 ·cases h
 ·rename_i h0
  split at h
  ·split at h
   ·cases h
   ·obtain ⟨x, hx, rfl⟩ := List.mem_map.1 (List.mem_filter.1 h).1
    have := sS _ _ x hx
    rw [lP]
    rw [← co] at this
    omega
  ·cases h
theorem lv (x0 : ByteArray) : Does E 25 [.one (tS x0)] [(false, [.s .own () 1 (((an x0).1).map etS)]), (false, [tB ((an x0).2)])] := by
 exact CA x0 _ (Fk x0)
theorem ls (x0 : ByteArray) : Does E 48 [.one (tS x0)] [(false, [.s .own () 1 (((an x0).1).map etS)]), (false, [tB ((an x0).2)])] := by
 exact Ch x0 _ (Fj x0)
inductive mX where
 | ret (v2 : Int) (v3 : Bool)
 | x0 (v4 : Int)
def dg (v0 : ByteArray) (v4 v5 : Int) : US := stL 42 [(0, .one (tS v0)), (4, .one (tI v4)), (5, .one (tI v5))]
def eZ (zv2 : Int) (zv3 : Bool) : US := stL 42 [(2, .one (tI zv2)), (3, .one (tB zv3))]
def d3 (v0 : ByteArray) (zv4 : Int) : US := stL 42 [(0, .one (tS v0)), (4, .one (tI zv4))]
abbrev gz : US → Exit → US → Prop := Round E 57 (aB Tryz.f57 0)
def tN (v0 : ByteArray) (v4 v5 : Int) : mX → Prop
 | .ret zv2 zv3 => Loops E 57 (aB Tryz.f57 0) (dg v0 v4 v5) .ret (eZ zv2 zv3)
 | .x0 zv4 => Loops E 57 (aB Tryz.f57 0) (dg v0 v4 v5) (.exit 0) (d3 v0 zv4)
theorem ri (v0 : ByteArray) (v4 v5 : Int) (h0 : (decide (v5 < (v0.size : Int))) = true) (h1 : 0 ≤ v5 ∧ v5 < (v0.size : Int)) (h2 : (decide ((aA v0 v5) < (48 : Int))) = true) : gz (dg v0 v4 v5) .ret (eZ (0 : Int) false) :=
 IV [.b true, .b true] _ (fun k => by kernel_rfl) (AC h0 <| AC h1 <| AC h2 <| AN)
theorem rj (v0 : ByteArray) (v4 v5 : Int) (h0 : (decide (v5 < (v0.size : Int))) = true) (h1 : 0 ≤ v5 ∧ v5 < (v0.size : Int)) (h2 : (decide ((aA v0 v5) < (48 : Int))) = false) (h3 : (decide ((aA v0 v5) > (57 : Int))) = true) : gz (dg v0 v4 v5) .ret (eZ (0 : Int) false) :=
 IV [.b true, .b false, .b true] _ (fun k => by kernel_rfl) (AC h0 <| AC h1 <| AC h2 <| AC h1 <| AC h3 <| AN)
theorem rk (v0 : ByteArray) (v4 v5 : Int) (h0 : (decide (v5 < (v0.size : Int))) = true) (h1 : 0 ≤ v5 ∧ v5 < (v0.size : Int)) (h2 : (decide ((aA v0 v5) < (48 : Int))) = false) (h3 : (decide ((aA v0 v5) > (57 : Int))) = false) : gz (dg v0 v4 v5) .normal (dg v0 (IntKind.wrap .i64 ((IntKind.wrap .i64 ((IntKind.wrap .i64 ((10 : Int) * v4)) + (IntKind.wrap .i64 (aA v0 v5)))) - (48 : Int))) (inc v5)) :=
 IV [.b true, .b false, .b false] _ (fun k => by kernel_rfl) (AC h0 <| AC h1 <| AC h2 <| AC h1 <| AC h3 <| AC h1 <| AN)
theorem rl (v0 : ByteArray) (v4 v5 : Int) (h0 : (decide (v5 < (v0.size : Int))) = false) : gz (dg v0 v4 v5) (.exit 0) (d3 v0 v4) :=
 IV [.b false] _ (fun k => by kernel_rfl) (AC h0 <| AN)
noncomputable def dh (v0 : ByteArray) : List Int → Nat → Int → Option mX
 | [], i, v4 => some (.x0 v4)
 | hd :: rest, i, v4 => cond (decide (hd < (48 : Int)))
  (some (.ret (0 : Int) false))
  (cond (decide (hd > (57 : Int)))
   (some (.ret (0 : Int) false))
   (dh v0 rest (i + 1) (IntKind.wrap .i64 ((IntKind.wrap .i64 ((IntKind.wrap .i64 ((10 : Int) * v4)) + (IntKind.wrap .i64 hd))) - (48 : Int)))))
theorem tM (v0 : ByteArray) (rest : List Int) : ∀ (i : Nat) (v4 : Int), (bu v0).drop i = rest → v0.size ≤ 9223372036854775807 → Ans (dh v0 rest i v4) (tN v0 v4 (i : Int)) := by
 induction rest with
 | nil =>
  intro i v4 hE hl
  have hb := mI hE
  unfold dh
  exact IX (IZ (rl v0 v4 (i : Int) hb) (by intro h; cases h))
 | cons hd rest ih =>
  intro i v4 hE hl
  have hb := lN hE
  have hw := lO hE hl
  have hE2 := aK hE
  have hp := og hE
  obtain rfl := of hE
  unfold dh
  refine I3 (fun h2 => ?_) (fun h2 => ?_)
  ·exact IX (IZ (ri v0 v4 (i : Int) hb hp h2) (by intro h; cases h))
  ·refine I3 (fun h3 => ?_) (fun h3 => ?_)
   ·exact IX (IZ (rj v0 v4 (i : Int) hb hp h2 h3) (by intro h; cases h))
   ·exact (ih (i + 1) (IntKind.wrap .i64 ((IntKind.wrap .i64 ((IntKind.wrap .i64 ((10 : Int) * v4)) + (IntKind.wrap .i64 (aA v0 (i : Int))))) - (48 : Int))) hE2 hl).mono fun y hy => by have r := rk v0 v4 (i : Int) hb hp h2 h3; rw [hw] at r; cases y <;> exact IY r hy
noncomputable def ig (x0 : ByteArray) : Option (Int × Bool) :=
  cond (decide ((x0.size : Int) > (10 : Int)))
   (some ((0 : Int), false))
   (if x0.size ≤ 9223372036854775807 then (dh x0 (bu x0) 0 (0 : Int)).bind fun y => match y with
    | .ret w0_2 w0_3 => (some (w0_2, w0_3))
    | .x0 w0_4 => (cond (decide (w0_4 > (1000000000 : Int)))
     (some ((0 : Int), false))
     (if -9223372036854775808 ≤ w0_4 ∧ w0_4 ≤ 9223372036854775807 then cond (!((aI w0_4).toList == x0.toList))
      (some ((0 : Int), false))
      (some (w0_4, true)) else none)) else none)
theorem u1 (x0 : ByteArray) : Ans (ig x0) (fun r => Does E 57 [.one (tS x0)] [(false, [tI r.1]), (false, [tB r.2])]) := by
 unfold ig
 refine I3 (fun h0 => ?_) (fun h0 => ?_)
 ·exact IX (IW (fn := Tryz.f57) [.b true] _ rfl (fun _ => rfl) (fun k => by kernel_rfl) (AC h0 <| AN))
 ·refine I5 (fun hl2 => ?_)
  refine I4 (fun y hy => ?_)
  replace hy := tM x0 (bu x0) 0 (0 : Int) rfl hl2 y hy
  cases y with
  | ret w0_2 w0_3 =>
   have h1 := hy
   exact IX (IW (fn := Tryz.f57) [.b false, .lp .ret (eZ w0_2 w0_3)] _ rfl (fun _ => rfl) (fun k => by kernel_rfl) (AC h0 <| AL h1 <| AN))
  | x0 w0_4 =>
   have h1 := hy
   refine I3 (fun h2 => ?_) (fun h2 => ?_)
   ·exact IX (IW (fn := Tryz.f57) [.b false, .lp (.exit 0) (d3 x0 w0_4), .b true] _ rfl (fun _ => rfl) (fun k => by kernel_rfl) (AC h0 <| AL h1 <| AC h2 <| AN))
   ·refine I5 (fun h3 => ?_)
    refine I3 (fun h4 => ?_) (fun h4 => ?_)
    ·exact IX (IW (fn := Tryz.f57) [.b false, .lp (.exit 0) (d3 x0 w0_4), .b false, .ret [(false, [tS (aI w0_4)])], .b true] _ rfl (fun _ => rfl) (fun k => by kernel_rfl) (AC h0 <| AL h1 <| AC h2 <| AD (lu w0_4 h3) <| AC h4 <| AN))
    ·exact IX (IW (fn := Tryz.f57) [.b false, .lp (.exit 0) (d3 x0 w0_4), .b false, .ret [(false, [tS (aI w0_4)])], .b false] _ rfl (fun _ => rfl) (fun k => by kernel_rfl) (AC h0 <| AL h1 <| AC h2 <| AD (lu w0_4 h3) <| AC h4 <| AN))
inductive mN where
 | ret (v2 : Int) (v3 : Bool)
 | x0 (v4 : Int)
def da (v0 : ByteArray) (v4 v5 : Int) : US := stL 47 [(0, .one (tS v0)), (4, .one (tI v4)), (5, .one (tI v5))]
def eY (zv2 : Int) (zv3 : Bool) : US := stL 47 [(2, .one (tI zv2)), (3, .one (tB zv3))]
def dW (v0 : ByteArray) (zv4 : Int) : US := stL 47 [(0, .one (tS v0)), (4, .one (tI zv4))]
abbrev gq : US → Exit → US → Prop := Round E 71 (aB Tryz.f71 0)
def tj (v0 : ByteArray) (v4 v5 : Int) : mN → Prop
 | .ret zv2 zv3 => Loops E 71 (aB Tryz.f71 0) (da v0 v4 v5) .ret (eY zv2 zv3)
 | .x0 zv4 => Loops E 71 (aB Tryz.f71 0) (da v0 v4 v5) (.exit 0) (dW v0 zv4)
theorem qE (v0 : ByteArray) (v4 v5 : Int) (h0 : (decide (v5 < (v0.size : Int))) = true) (h1 : 0 ≤ v5 ∧ v5 < (v0.size : Int)) (h2 : (decide ((aA v0 v5) < (48 : Int))) = true) : gq (da v0 v4 v5) .ret (eY (0 : Int) false) :=
 IV [.b true, .b true] _ (fun k => by kernel_rfl) (AC h0 <| AC h1 <| AC h2 <| AN)
theorem qF (v0 : ByteArray) (v4 v5 : Int) (h0 : (decide (v5 < (v0.size : Int))) = true) (h1 : 0 ≤ v5 ∧ v5 < (v0.size : Int)) (h2 : (decide ((aA v0 v5) < (48 : Int))) = false) (h3 : (decide ((aA v0 v5) > (57 : Int))) = true) : gq (da v0 v4 v5) .ret (eY (0 : Int) false) :=
 IV [.b true, .b false, .b true] _ (fun k => by kernel_rfl) (AC h0 <| AC h1 <| AC h2 <| AC h1 <| AC h3 <| AN)
theorem qG (v0 : ByteArray) (v4 v5 : Int) (h0 : (decide (v5 < (v0.size : Int))) = true) (h1 : 0 ≤ v5 ∧ v5 < (v0.size : Int)) (h2 : (decide ((aA v0 v5) < (48 : Int))) = false) (h3 : (decide ((aA v0 v5) > (57 : Int))) = false) : gq (da v0 v4 v5) .normal (da v0 (IntKind.wrap .i64 ((IntKind.wrap .i64 (v4 * (10 : Int))) + (IntKind.wrap .i64 (IntKind.wrap .u8 ((aA v0 v5) - (48 : Int)))))) (inc v5)) :=
 IV [.b true, .b false, .b false] _ (fun k => by kernel_rfl) (AC h0 <| AC h1 <| AC h2 <| AC h1 <| AC h3 <| AC h1 <| AN)
theorem qI (v0 : ByteArray) (v4 v5 : Int) (h0 : (decide (v5 < (v0.size : Int))) = false) : gq (da v0 v4 v5) (.exit 0) (dW v0 v4) :=
 IV [.b false] _ (fun k => by kernel_rfl) (AC h0 <| AN)
noncomputable def db (v0 : ByteArray) : List Int → Nat → Int → Option mN
 | [], i, v4 => some (.x0 v4)
 | hd :: rest, i, v4 => cond (decide (hd < (48 : Int)))
  (some (.ret (0 : Int) false))
  (cond (decide (hd > (57 : Int)))
   (some (.ret (0 : Int) false))
   (db v0 rest (i + 1) (IntKind.wrap .i64 ((IntKind.wrap .i64 (v4 * (10 : Int))) + (IntKind.wrap .i64 (IntKind.wrap .u8 (hd - (48 : Int))))))))
theorem th (v0 : ByteArray) (rest : List Int) : ∀ (i : Nat) (v4 : Int), (bu v0).drop i = rest → v0.size ≤ 9223372036854775807 → Ans (db v0 rest i v4) (tj v0 v4 (i : Int)) := by
 induction rest with
 | nil =>
  intro i v4 hE hl
  have hb := mI hE
  unfold db
  exact IX (IZ (qI v0 v4 (i : Int) hb) (by intro h; cases h))
 | cons hd rest ih =>
  intro i v4 hE hl
  have hb := lN hE
  have hw := lO hE hl
  have hE2 := aK hE
  have hp := og hE
  obtain rfl := of hE
  unfold db
  refine I3 (fun h2 => ?_) (fun h2 => ?_)
  ·exact IX (IZ (qE v0 v4 (i : Int) hb hp h2) (by intro h; cases h))
  ·refine I3 (fun h3 => ?_) (fun h3 => ?_)
   ·exact IX (IZ (qF v0 v4 (i : Int) hb hp h2 h3) (by intro h; cases h))
   ·exact (ih (i + 1) (IntKind.wrap .i64 ((IntKind.wrap .i64 (v4 * (10 : Int))) + (IntKind.wrap .i64 (IntKind.wrap .u8 ((aA v0 (i : Int)) - (48 : Int)))))) hE2 hl).mono fun y hy => by have r := qG v0 v4 (i : Int) hb hp h2 h3; rw [hw] at r; cases y <;> exact IY r hy
noncomputable def hZ (x0 : ByteArray) : Option (Int × Bool) :=
  cond ((x0.size : Int) == (0 : Int))
   (some ((0 : Int), false))
   (cond (decide ((x0.size : Int) > (10 : Int)))
    (some ((0 : Int), false))
    (if x0.size ≤ 9223372036854775807 then (db x0 (bu x0) 0 (0 : Int)).bind fun y => match y with
     | .ret w0_2 w0_3 => (some (w0_2, w0_3))
     | .x0 w0_4 => (cond (decide (w0_4 > (1000000000 : Int)))
      (some ((0 : Int), false))
      (if -9223372036854775808 ≤ w0_4 ∧ w0_4 ≤ 9223372036854775807 then cond (!((aI w0_4).toList == x0.toList))
       (some ((0 : Int), false))
       (some (w0_4, true)) else none)) else none))
theorem uJ (x0 : ByteArray) : Ans (hZ x0) (fun r => Does E 71 [.one (tS x0)] [(false, [tI r.1]), (false, [tB r.2])]) := by
 unfold hZ
 refine I3 (fun h0 => ?_) (fun h0 => ?_)
 ·exact IX (IW (fn := Tryz.f71) [.b true] _ rfl (fun _ => rfl) (fun k => by kernel_rfl) (AC h0 <| AN))
 ·refine I3 (fun h1 => ?_) (fun h1 => ?_)
  ·exact IX (IW (fn := Tryz.f71) [.b false, .b true] _ rfl (fun _ => rfl) (fun k => by kernel_rfl) (AC h0 <| AC h1 <| AN))
  ·refine I5 (fun hl3 => ?_)
   refine I4 (fun y hy => ?_)
   replace hy := th x0 (bu x0) 0 (0 : Int) rfl hl3 y hy
   cases y with
   | ret w0_2 w0_3 =>
    have h2 := hy
    exact IX (IW (fn := Tryz.f71) [.b false, .b false, .lp .ret (eY w0_2 w0_3)] _ rfl (fun _ => rfl) (fun k => by kernel_rfl) (AC h0 <| AC h1 <| AL h2 <| AN))
   | x0 w0_4 =>
    have h2 := hy
    refine I3 (fun h3 => ?_) (fun h3 => ?_)
    ·exact IX (IW (fn := Tryz.f71) [.b false, .b false, .lp (.exit 0) (dW x0 w0_4), .b true] _ rfl (fun _ => rfl) (fun k => by kernel_rfl) (AC h0 <| AC h1 <| AL h2 <| AC h3 <| AN))
    ·refine I5 (fun h4 => ?_)
     refine I3 (fun h5 => ?_) (fun h5 => ?_)
     ·exact IX (IW (fn := Tryz.f71) [.b false, .b false, .lp (.exit 0) (dW x0 w0_4), .b false, .ret [(false, [tS (aI w0_4)])], .b true] _ rfl (fun _ => rfl) (fun k => by kernel_rfl) (AC h0 <| AC h1 <| AL h2 <| AC h3 <| AD (nC w0_4 h4) <| AC h5 <| AN))
     ·exact IX (IW (fn := Tryz.f71) [.b false, .b false, .lp (.exit 0) (dW x0 w0_4), .b false, .ret [(false, [tS (aI w0_4)])], .b false] _ rfl (fun _ => rfl) (fun k => by kernel_rfl) (AC h0 <| AC h1 <| AL h2 <| AC h3 <| AD (nC w0_4 h4) <| AC h5 <| AN))
def i6 : List UInt8 → Int → Option Int
 | [], v => some v
 | b :: l, v => if 48 ≤ b.toNat ∧ b.toNat ≤ 57 then i6 l (10 * v + ((b.toNat : Int) - 48)) else none
noncomputable def aa (s : ByteArray) : Int × Bool :=
 if 10 < s.size then (0, false) else match i6 (tx s) 0 with
  | none => (0, false)
  | some n => if 1000000000 < n then (0, false) else if tx (aI n) = tx s then (n, true) else (0, false)
theorem sG : ∀ (l : List UInt8) (v : Int) (k : Nat) (r : Int), 0 ≤ v → v < 10 ^ k → i6 l v = some r → 0 ≤ r ∧ r < 10 ^ (k + l.length)
 | [], v, k, r, h0, h1, h => by cases h; exact ⟨h0, h1⟩
 | b :: l, v, k, r, h0, h1, h => by
  unfold i6 at h
  split at h
  ·rename_i hb
   have := sG l (10 * v + ((b.toNat : Int) - 48)) (k + 1) r (by omega) (by rw [Int.pow_succ]; omega) h
   rw [List.length_cons, show k + (l.length + 1) = k + 1 + l.length by omega]
   exact this
  ·cases h
theorem A5 {k n : Nat} (h : k ≤ n) : (10 : Int) ^ k ≤ 10 ^ n := by
 have := Nat.pow_le_pow_right (n := 10) (by omega) h
 have e : ∀ m : Nat, (10 : Int) ^ m = ((10 ^ m : Nat) : Int) := fun m => by simp
 rw [e, e]; omega
theorem A7 (s : ByteArray) : ∀ (l : List UInt8) (i : Nat) (v : Int) (k : Nat), 0 ≤ v → v < 10 ^ k → k + l.length ≤ 10 →
  dh s (l.map fun b => (b.toNat : Int)) i v = some (match i6 l v with | some r => .x0 r | none => .ret 0 false) ∧
  db s (l.map fun b => (b.toNat : Int)) i v = some (match i6 l v with | some r => .x0 r | none => .ret 0 false)
 | [], i, v, k, _, _, _ => ⟨rfl, rfl⟩
 | b :: l, i, v, k, h0, h1, hk => by
  have hp := A5 (show k ≤ 10 by omega)
  have e10 : (10 : Int) ^ 10 = 10000000000 := by decide
  rw [List.map_cons]
  unfold dh db i6
  have bl := b.toNat_lt
  by_cases h : b.toNat < 48
  ·rw [decide_eq_true (by omega : ((b.toNat : Int) < 48)), if_neg (by omega)]
   exact ⟨rfl, rfl⟩
  ·rw [decide_eq_false (by omega : ¬ ((b.toNat : Int) < 48)), cond_false, cond_false]
   by_cases h' : 57 < b.toNat
   ·rw [decide_eq_true (by omega : ((b.toNat : Int) > 57)), if_neg (by omega)]
    exact ⟨rfl, rfl⟩
   ·rw [decide_eq_false (by omega : ¬ ((b.toNat : Int) > 57)), if_pos (by omega), cond_false, cond_false]
    have w1 : IntKind.wrap .i64 (IntKind.wrap .i64 (IntKind.wrap .i64 (10 * v) + IntKind.wrap .i64 (b.toNat : Int)) - 48) = 10 * v + ((b.toNat : Int) - 48) := by
     rw [cU (10 * v) (by omega) (by omega), cU (b.toNat : Int) (by omega) (by omega), cU (10 * v + (b.toNat : Int)) (by omega) (by omega), cU _ (by omega) (by omega)]; omega
    have w2 : IntKind.wrap .i64 (IntKind.wrap .i64 (v * 10) + IntKind.wrap .i64 (IntKind.wrap .u8 ((b.toNat : Int) - 48))) = 10 * v + ((b.toNat : Int) - 48) := by
     rw [GG (by omega) (by omega), cU (v * 10) (by omega) (by omega), cU ((b.toNat : Int) - 48) (by omega) (by omega), cU _ (by omega) (by omega)]; omega
    rw [w1, w2]
    simp only [List.length_cons] at hk
    exact A7 s l (i + 1) _ (k + 1) (by omega) (by rw [Int.pow_succ]; omega) (by omega)
theorem nQ {s : ByteArray} (h : ¬ 10 < s.size) {r : Int} (hr : i6 (tx s) 0 = some r) : 0 ≤ r ∧ r < 10000000000 := by
 have := sG (tx s) 0 0 r (by omega) (by decide) hr
 have hp := A5 (show 0 + (tx s).length ≤ 10 by rw [← co]; omega)
 have e10 : (10 : Int) ^ 10 = 10000000000 := by decide
 omega
theorem Fp (s : ByteArray) : ig s = some (aa s) := by
 unfold ig aa
 by_cases h : 10 < s.size
 ·rw [decide_eq_true (by omega), if_pos h]; rfl
 ·obtain ⟨e, -⟩ := A7 s (tx s) 0 0 0 (by omega) (by decide) (by rw [← co]; omega)
  rw [decide_eq_false (by omega), if_neg h, cond_false, if_pos (by omega), mr, e]
  cases q : i6 (tx s) 0 with
  | none => rfl
  | some n =>
   obtain ⟨n0, n1⟩ := nQ h q
   simp only [Option.bind_some]
   by_cases z : 1000000000 < n
   ·rw [decide_eq_true (by omega), if_pos z]; rfl
   ·rw [decide_eq_false (by omega), if_neg z, cond_false, if_pos (by omega), mz]
    by_cases y : tx (aI n) = tx s
    ·rw [decide_eq_true y, if_pos y]; rfl
    ·rw [decide_eq_false y, if_neg y]; rfl
theorem Fo (s : ByteArray) : hZ s = some (aa s) := by
 unfold hZ aa
 by_cases hz : s.size = 0
 ·have ht : tx s = [] := List.eq_nil_of_length_eq_zero (by rw [← co]; exact hz)
  have e1 : ((s.size : Int) == 0) = true := by rw [hz]; rfl
  rw [e1, cond_true, if_neg (by omega), ht]
  unfold i6
  simp only
  have : ¬ tx (aI 0) = [] := by
   unfold aI Lib.itoa
   rw [if_neg (by omega), Lib.decDigits, dif_pos (by simp)]
   simp [tx]
  rw [if_neg (by omega), if_neg this]
 have e1 : ((s.size : Int) == 0) = false := by rw [beq_eq_false_iff_ne]; omega
 rw [e1, cond_false]
 by_cases h : 10 < s.size
 ·rw [decide_eq_true (by omega), if_pos h]; rfl
 ·obtain ⟨-, e⟩ := A7 s (tx s) 0 0 0 (by omega) (by decide) (by rw [← co]; omega)
  rw [decide_eq_false (by omega), if_neg h, cond_false, if_pos (by omega), mr, e]
  cases q : i6 (tx s) 0 with
  | none => rfl
  | some n =>
   obtain ⟨n0, n1⟩ := nQ h q
   simp only [Option.bind_some]
   by_cases z : 1000000000 < n
   ·rw [decide_eq_true (by omega), if_pos z]; rfl
   ·rw [decide_eq_false (by omega), if_neg z, cond_false, if_pos (by omega), mz]
    by_cases y : tx (aI n) = tx s
    ·rw [decide_eq_true y, if_pos y]; rfl
    ·rw [decide_eq_false y, if_neg y]; rfl
theorem Ec (s : ByteArray) : 0 ≤ (aa s).1 ∧ (aa s).1 ≤ 1000000000 := by
 unfold aa
 split
 ·exact ⟨Int.le_refl _, by decide⟩
 ·rename_i h
  split
  ·exact ⟨Int.le_refl _, by decide⟩
  ·rename_i n q
   obtain ⟨n0, n1⟩ := nQ h q
   split
   ·exact ⟨Int.le_refl _, by decide⟩
   ·split
    ·exact ⟨n0, by show n ≤ _; omega⟩
    ·exact ⟨Int.le_refl _, by decide⟩
theorem xO : ∀ {l : List UInt8} {b : UInt8} (v : Int), b ∈ l → ¬ (48 ≤ b.toNat ∧ b.toNat ≤ 57) → i6 l v = none
 | x :: l, b, v, h, hb => by
  unfold i6
  rcases List.mem_cons.1 h with rfl | h
  ·rw [if_neg hb]
  ·split
   ·exact xO _ h hb
   ·rfl
theorem sE {s : ByteArray} {b : UInt8} (h : b ∈ tx s) (hb : ¬ (48 ≤ b.toNat ∧ b.toNat ≤ 57)) : aa s = (0, false) := by
 unfold aa
 rw [xO 0 h hb]
 split <;> rfl
theorem ar (x0 : ByteArray) : Does E 57 [.one (tS x0)] [(false, [tI ((aa x0).1)]), (false, [tB ((aa x0).2)])] := by
 exact u1 x0 _ (Fp x0)
theorem a6 (x0 : ByteArray) : Does E 71 [.one (tS x0)] [(false, [tI ((aa x0).1)]), (false, [tB ((aa x0).2)])] := by
 exact uJ x0 _ (Fo x0)
inductive pQ where
 | x0 (v5 : List ByteArray)
def dI (v0 : ByteArray) (v1 : Int) (v5 : List ByteArray) (v6 v7 : Int) : US := stL 36 [(0, .one (tS v0)), (1, .one (tY v1)), (5, .one (.s .own () 1 (v5.map etS))), (6, .one (tI v6)), (7, .one (tI v7))]
def kO (zv5 : List ByteArray) : US := stL 36 [(5, .one (.s .own () 1 (zv5.map etS)))]
abbrev jH : US → Exit → US → Prop := Round E 43 (aB Tryz.f43 0)
def y9 (v0 : ByteArray) (v1 : Int) (v5 : List ByteArray) (v6 v7 : Int) : pQ → Prop
 | .x0 zv5 => Loops E 43 (aB Tryz.f43 0) (dI v0 v1 v5 v6 v7) (.exit 0) (kO zv5)
theorem ve (v0 : ByteArray) (v1 : Int) (v5 : List ByteArray) (v6 v7 : Int) (h0 : (decide (v7 ≤ (v0.size : Int))) = true) (h1 : (v7 == (v0.size : Int)) = true) (h2 : 0 ≤ v6 ∧ v6 ≤ v7 ∧ v7 ≤ (v0.size : Int)) (h3 : (v5.length + ([v0.extract v6.toNat v7.toNat]).length) * 16 ≤ 140737488355328 ∧ v5.length + ([v0.extract v6.toNat v7.toNat]).length ≤ 4611686018427387904) : jH (dI v0 v1 v5 v6 v7) .normal (dI v0 v1 (v5 ++ ([v0.extract v6.toNat v7.toNat])) (inc v7) (inc v7)) :=
 IV [.b true, .b true, .rows ((v5 ++ ([v0.extract v6.toNat v7.toNat])).map etS)] _ (fun k => by kernel_rfl) (AC h0 <| AC h1 <| AC h2 <| AC (p := (((([v0.extract v6.toNat v7.toNat]).map etS).drop 0).take (([v0.extract v6.toNat v7.toNat]).map etS).length).all (fun r => r.all T.flat) = true ∧ ((v5.map etS).length + (((([v0.extract v6.toNat v7.toNat]).map etS).drop 0).take (([v0.extract v6.toNat v7.toNat]).map etS).length).length) * 16 ≤ 140737488355328 ∧ (v5.map etS).length + (((([v0.extract v6.toNat v7.toNat]).map etS).drop 0).take (([v0.extract v6.toNat v7.toNat]).map etS).length).length ≤ 4611686018427387904) (by simp only [List.take_length, List.drop_zero]; exact ee (fun x => rfl) h3) <| AC (p := (v5.map etS) ++ (((([v0.extract v6.toNat v7.toNat]).map etS).drop 0).take (([v0.extract v6.toNat v7.toNat]).map etS).length) = (v5 ++ ([v0.extract v6.toNat v7.toNat])).map etS) (by simp only [List.take_length, List.drop_zero]; exact di) <| AN)
theorem vf (v0 : ByteArray) (v1 : Int) (v5 : List ByteArray) (v6 v7 : Int) (h0 : (decide (v7 ≤ (v0.size : Int))) = true) (h1 : (v7 == (v0.size : Int)) = false) (h2 : 0 ≤ v7 ∧ v7 < (v0.size : Int)) (h3 : ((aA v0 v7) == v1) = true) (h4 : 0 ≤ v6 ∧ v6 ≤ v7 ∧ v7 ≤ (v0.size : Int)) (h5 : (v5.length + ([v0.extract v6.toNat v7.toNat]).length) * 16 ≤ 140737488355328 ∧ v5.length + ([v0.extract v6.toNat v7.toNat]).length ≤ 4611686018427387904) : jH (dI v0 v1 v5 v6 v7) .normal (dI v0 v1 (v5 ++ ([v0.extract v6.toNat v7.toNat])) (inc v7) (inc v7)) :=
 IV [.b true, .b false, .b true, .rows ((v5 ++ ([v0.extract v6.toNat v7.toNat])).map etS)] _ (fun k => by kernel_rfl) (AC h0 <| AC h1 <| AC h2 <| AC h3 <| AC h4 <| AC (p := (((([v0.extract v6.toNat v7.toNat]).map etS).drop 0).take (([v0.extract v6.toNat v7.toNat]).map etS).length).all (fun r => r.all T.flat) = true ∧ ((v5.map etS).length + (((([v0.extract v6.toNat v7.toNat]).map etS).drop 0).take (([v0.extract v6.toNat v7.toNat]).map etS).length).length) * 16 ≤ 140737488355328 ∧ (v5.map etS).length + (((([v0.extract v6.toNat v7.toNat]).map etS).drop 0).take (([v0.extract v6.toNat v7.toNat]).map etS).length).length ≤ 4611686018427387904) (by simp only [List.take_length, List.drop_zero]; exact ee (fun x => rfl) h5) <| AC (p := (v5.map etS) ++ (((([v0.extract v6.toNat v7.toNat]).map etS).drop 0).take (([v0.extract v6.toNat v7.toNat]).map etS).length) = (v5 ++ ([v0.extract v6.toNat v7.toNat])).map etS) (by simp only [List.take_length, List.drop_zero]; exact di) <| AN)
theorem vg (v0 : ByteArray) (v1 : Int) (v5 : List ByteArray) (v6 v7 : Int) (h0 : (decide (v7 ≤ (v0.size : Int))) = true) (h1 : (v7 == (v0.size : Int)) = false) (h2 : 0 ≤ v7 ∧ v7 < (v0.size : Int)) (h3 : ((aA v0 v7) == v1) = false) : jH (dI v0 v1 v5 v6 v7) .normal (dI v0 v1 v5 v6 (inc v7)) :=
 IV [.b true, .b false, .b false] _ (fun k => by kernel_rfl) (AC h0 <| AC h1 <| AC h2 <| AC h3 <| AN)
theorem vh (v0 : ByteArray) (v1 : Int) (v5 : List ByteArray) (v6 v7 : Int) (h0 : (decide (v7 ≤ (v0.size : Int))) = false) : jH (dI v0 v1 v5 v6 v7) (.exit 0) (kO v5) :=
 IV [.b false] _ (fun k => by kernel_rfl) (AC h0 <| AN)
noncomputable def cF (v0 : ByteArray) (v1 : Int) : Nat → (List ByteArray) → Int → Int → Option pQ
 | 0, _, _, _ => none
 | n + 1, v5, v6, v7 => cond (decide (v7 ≤ (v0.size : Int)))
  (cond (v7 == (v0.size : Int))
   (if 0 ≤ v6 ∧ v6 ≤ v7 ∧ v7 ≤ (v0.size : Int) then if (v5.length + ([v0.extract v6.toNat v7.toNat]).length) * 16 ≤ 140737488355328 ∧ v5.length + ([v0.extract v6.toNat v7.toNat]).length ≤ 4611686018427387904 then cF v0 v1 n (v5 ++ ([v0.extract v6.toNat v7.toNat])) (inc v7) (inc v7) else none else none)
   (if 0 ≤ v7 ∧ v7 < (v0.size : Int) then cond ((aA v0 v7) == v1)
    (if 0 ≤ v6 ∧ v6 ≤ v7 ∧ v7 ≤ (v0.size : Int) then if (v5.length + ([v0.extract v6.toNat v7.toNat]).length) * 16 ≤ 140737488355328 ∧ v5.length + ([v0.extract v6.toNat v7.toNat]).length ≤ 4611686018427387904 then cF v0 v1 n (v5 ++ ([v0.extract v6.toNat v7.toNat])) (inc v7) (inc v7) else none else none)
    (cF v0 v1 n v5 v6 (inc v7)) else none))
  (some (.x0 v5))
theorem y8 (v0 : ByteArray) (v1 : Int) (n : Nat) : ∀ (v5 : List ByteArray) (v6 v7 : Int), Ans (cF v0 v1 n v5 v6 v7) (y9 v0 v1 v5 v6 v7) := by
 induction n with
 | zero => intros; exact Ans.none
 | succ n ih =>
  intro v5 v6 v7
  unfold cF
  refine I3 (fun h0 => ?_) (fun h0 => ?_)
  ·refine I3 (fun h1 => ?_) (fun h1 => ?_)
   ·refine I5 (fun h2 => ?_)
    refine I5 (fun h3 => ?_)
    exact (ih (v5 ++ ([v0.extract v6.toNat v7.toNat])) (inc v7) (inc v7)).mono fun y hy => by cases y <;> exact IY (ve v0 v1 v5 v6 v7 h0 h1 h2 h3) hy
   ·refine I5 (fun h2 => ?_)
    refine I3 (fun h3 => ?_) (fun h3 => ?_)
    ·refine I5 (fun h4 => ?_)
     refine I5 (fun h5 => ?_)
     exact (ih (v5 ++ ([v0.extract v6.toNat v7.toNat])) (inc v7) (inc v7)).mono fun y hy => by cases y <;> exact IY (vf v0 v1 v5 v6 v7 h0 h1 h2 h3 h4 h5) hy
    ·exact (ih v5 v6 (inc v7)).mono fun y hy => by cases y <;> exact IY (vg v0 v1 v5 v6 v7 h0 h1 h2 h3) hy
  ·exact IX (IZ (vh v0 v1 v5 v6 v7 h0) (by intro h; cases h))
noncomputable def kP (x0 : ByteArray) (x1 : Int) : Option ((List ByteArray)) :=
  (cF x0 x1 9223372036854775808 ([]) (0 : Int) (0 : Int)).bind fun y => match y with
   | .x0 w0_5 => (some (w0_5))
theorem Bu (x0 : ByteArray) (x1 : Int) : Ans (kP x0 x1) (fun r => Does E 43 [.one (tS x0), .one (tY x1)] [(false, [.s .own () 1 (r.map etS)])]) := by
 unfold kP
 refine I4 (fun y hy => ?_)
 replace hy := y8 x0 x1 9223372036854775808 ([]) (0 : Int) (0 : Int) y hy
 cases y with
 | x0 w0_5 =>
  have h0 := hy
  exact IX (IW (fn := Tryz.f43) [.lp (.exit 0) (kO w0_5)] _ rfl (fun _ => rfl) (fun k => by kernel_rfl) (AL h0 <| AN))
noncomputable def ab (s : ByteArray) (c : Int) : List ByteArray := (bo (UInt8.ofNat c.toNat) (tx s)).map ofTx
theorem FB (s : ByteArray) (c : UInt8) (hs : s.size ≤ 2000000) : ∀ (m i a : Nat) (v : List ByteArray) (n : Nat), i + m = (tx s).length → m + 1 < n → a ≤ i → v.length + m ≤ 2000000 →
  cF s (c.toNat : Int) n v (a : Int) (i : Int) = some (.x0 (v ++ (e8 (seg (tx s) a i) (bo c ((tx s).drop i))).map ofTx))
 | m, i, a, v, n, hi, hn, ha, hv => by
  obtain ⟨n, rfl⟩ : ∃ k, n = k + 2 := ⟨n - 2, by omega⟩
  have hsz := co s
  unfold cF
  rw [decide_eq_true (by omega : (i : Int) ≤ (s.size : Int)), cond_true]
  have hinc : inc (i : Int) = ((i + 1 : Nat) : Int) := by rw [mO _ (by omega) (by omega)]; omega
  cases m with
  | zero =>
   have hd : (tx s).drop i = [] := List.drop_eq_nil_of_le (by omega)
   have stop : ∀ w b, cF s (c.toNat : Int) (n + 1) w b ((i + 1 : Nat) : Int) = some (.x0 w) := fun w b => by
    unfold cF
    rw [decide_eq_false (by omega)]; rfl
   have hc : e8 (seg (tx s) a i) (bo c ([] : List UInt8)) = [seg (tx s) a i] := by simp [bo, e8]
   have e : ((i : Int) == (s.size : Int)) = true := by rw [beq_iff_eq]; omega
   rw [e, cond_true, if_pos (by omega), if_pos (by simp; omega), hinc, stop, hd, hc, show ((a : Int).toNat) = a by omega, show ((i : Int).toNat) = i by omega, jq]; rfl
  | succ m =>
   obtain ⟨b, r, hd, hg, hr⟩ := Ac (l := tx s) (i := i) (by omega)
   have hb := zG hg
   have ih := fun a' v' (h1 : a' ≤ i + 1) (h2 : v'.length + m ≤ 2000000) => FB s c hs m (i + 1) a' v' (n + 1) (by omega) (by omega) h1 h2
   rw [hr] at ih
   have e : ((i : Int) == (s.size : Int)) = false := by rw [beq_eq_false_iff_ne]; omega
   rw [e, cond_false, if_pos (by omega), hb, hinc, hd]
   by_cases q : b = c
   ·subst q
    have hgl : e8 (seg (tx s) a i) ([] :: bo b r) = seg (tx s) a i :: bo b r := by simp [e8]
    have hz : e8 (seg (tx s) (i + 1) (i + 1)) (bo b r) = bo b r := by rw [m4]; exact o5 _ (fa _ _)
    have := ih (i + 1) (v ++ [s.extract a i]) (by omega) (by simp; omega)
    rw [hz] at this
    rw [beq_self_eq_true, cond_true, if_pos (by omega), if_pos (by simp; omega), mF, hgl]
    rw [show ((a : Int).toNat) = a by omega, show ((i : Int).toNat) = i by omega, this, jq]
    simp
   ·have e : ((b.toNat : Int) == (c.toNat : Int)) = false := by
     rw [beq_eq_false_iff_ne]
     intro h
     exact q (UInt8.toNat_inj.1 (by omega))
    rw [e, cond_false, ih a v (by omega) (by omega), jZ q, xG _ _ _ (fa _ _), ← BB ha hg]
theorem DV (s : ByteArray) (c : Int) (hs : s.size ≤ 2000000) (hc : 0 ≤ c ∧ c < 256) : kP s c = some (ab s c) := by
 have hz : e8 (seg (tx s) 0 0) (bo (UInt8.ofNat c.toNat) (tx s)) = bo (UInt8.ofNat c.toNat) (tx s) := by rw [m4]; exact o5 _ (fa _ _)
 have e := FB s (UInt8.ofNat c.toNat) hs (tx s).length 0 0 [] 9223372036854775808 (by omega) (by rw [← co]; omega) (by omega) (by rw [← co]; simp; omega)
 have ec : (((UInt8.ofNat c.toNat).toNat : Nat) : Int) = c := by rw [UInt8.toNat_ofNat']; omega
 rw [List.drop_zero, hz, List.nil_append, ec] at e
 unfold kP ab
 refine (congrArg (Option.bind · _) e).trans ?_
 rfl
theorem aN (x0 : ByteArray) (x1 : Int) (h : x0.size ≤ 2000000) (hc : 0 ≤ x1 ∧ x1 < 256) : Does E 43 [.one (tS x0), .one (tY x1)] [(false, [.s .own () 1 ((ab x0 x1).map etS)])] := by
 exact Bu x0 x1 _ (DV x0 x1 h hc)
noncomputable def iH (x0 : ByteArray) (x1 x2 : Int) : Option (Int × Int × Int × Bool) :=
  cond (x0.toList == (⟨#[42]⟩ : ByteArray).toList)
   (some (x1, x2, (1 : Int), true))
   (cond (decide ((x0.size : Int) > (2 : Int)))
    (if 0 ≤ (0 : Int) ∧ (0 : Int) ≤ (2 : Int) ∧ (2 : Int) ≤ (x0.size : Int) then cond ((x0.extract (0 : Int).toNat (2 : Int).toNat).toList == (⟨#[42, 47]⟩ : ByteArray).toList)
     (if 0 ≤ (2 : Int) ∧ (2 : Int) ≤ (x0.size : Int) ∧ (x0.size : Int) ≤ (x0.size : Int) then cond ((aa (x0.extract (2 : Int).toNat (x0.size : Int).toNat)).2)
      (some (x1, x2, (aa (x0.extract (2 : Int).toNat (x0.size : Int).toNat)).1, decide (((aa (x0.extract (2 : Int).toNat (x0.size : Int).toNat)).1) ≥ (1 : Int))))
      (some (x1, x2, (aa (x0.extract (2 : Int).toNat (x0.size : Int).toNat)).1, false)) else none)
     (if x0.size ≤ 2000000 then if 0 ≤ (45 : Int) ∧ (45 : Int) < 256 then (am (ab x0 (45 : Int)) (0 : Int)).bind fun g0 => cond ((aa g0).2)
      (cond (((ab x0 (45 : Int)).length : Int) == (2 : Int))
       ((am (ab x0 (45 : Int)) (1 : Int)).bind fun g1 => cond ((aa g1).2)
        (cond (decide (((ab x0 (45 : Int)).length : Int) ≤ (2 : Int)))
         (cond (decide (x1 ≤ ((aa g0).1)))
          (cond (decide (((aa g0).1) ≤ ((aa g1).1)))
           (some ((aa g0).1, (aa g1).1, (1 : Int), decide (((aa g1).1) ≤ x2)))
           (some ((aa g0).1, (aa g1).1, (1 : Int), false)))
          (some ((aa g0).1, (aa g1).1, (1 : Int), false)))
         (some ((aa g0).1, (aa g1).1, (1 : Int), false)))
        (some ((aa g0).1, (aa g1).1, (1 : Int), false)))
       (cond (decide (((ab x0 (45 : Int)).length : Int) ≤ (2 : Int)))
        (cond (decide (x1 ≤ ((aa g0).1)))
         (cond (decide (((aa g0).1) ≤ ((aa g0).1)))
          (some ((aa g0).1, (aa g0).1, (1 : Int), decide (((aa g0).1) ≤ x2)))
          (some ((aa g0).1, (aa g0).1, (1 : Int), false)))
         (some ((aa g0).1, (aa g0).1, (1 : Int), false)))
        (some ((aa g0).1, (aa g0).1, (1 : Int), false))))
      (cond (((ab x0 (45 : Int)).length : Int) == (2 : Int))
       ((am (ab x0 (45 : Int)) (1 : Int)).bind fun g1 => some ((aa g0).1, (aa g1).1, (1 : Int), false))
       (some ((aa g0).1, (aa g0).1, (1 : Int), false))) else none else none) else none)
    (if x0.size ≤ 2000000 then if 0 ≤ (45 : Int) ∧ (45 : Int) < 256 then (am (ab x0 (45 : Int)) (0 : Int)).bind fun g0 => cond ((aa g0).2)
     (cond (((ab x0 (45 : Int)).length : Int) == (2 : Int))
      ((am (ab x0 (45 : Int)) (1 : Int)).bind fun g1 => cond ((aa g1).2)
       (cond (decide (((ab x0 (45 : Int)).length : Int) ≤ (2 : Int)))
        (cond (decide (x1 ≤ ((aa g0).1)))
         (cond (decide (((aa g0).1) ≤ ((aa g1).1)))
          (some ((aa g0).1, (aa g1).1, (1 : Int), decide (((aa g1).1) ≤ x2)))
          (some ((aa g0).1, (aa g1).1, (1 : Int), false)))
         (some ((aa g0).1, (aa g1).1, (1 : Int), false)))
        (some ((aa g0).1, (aa g1).1, (1 : Int), false)))
       (some ((aa g0).1, (aa g1).1, (1 : Int), false)))
      (cond (decide (((ab x0 (45 : Int)).length : Int) ≤ (2 : Int)))
       (cond (decide (x1 ≤ ((aa g0).1)))
        (cond (decide (((aa g0).1) ≤ ((aa g0).1)))
         (some ((aa g0).1, (aa g0).1, (1 : Int), decide (((aa g0).1) ≤ x2)))
         (some ((aa g0).1, (aa g0).1, (1 : Int), false)))
        (some ((aa g0).1, (aa g0).1, (1 : Int), false)))
       (some ((aa g0).1, (aa g0).1, (1 : Int), false))))
     (cond (((ab x0 (45 : Int)).length : Int) == (2 : Int))
      ((am (ab x0 (45 : Int)) (1 : Int)).bind fun g1 => some ((aa g0).1, (aa g1).1, (1 : Int), false))
      (some ((aa g0).1, (aa g0).1, (1 : Int), false))) else none else none))
theorem Br (x0 : ByteArray) (x1 x2 : Int) : Ans (iH x0 x1 x2) (fun r => Does E 44 [.one (tS x0), .one (tI x1), .one (tI x2)] [(false, [tI r.1]), (false, [tI r.2.1]), (false, [tI r.2.2.1]), (false, [tB r.2.2.2])]) := by
 unfold iH
 refine I3 (fun h0 => ?_) (fun h0 => ?_)
 ·exact IX (IW (fn := Tryz.f44) [.b true] _ rfl (fun _ => rfl) (fun k => by kernel_rfl) (AC h0 <| AN))
 ·refine I3 (fun h1 => ?_) (fun h1 => ?_)
  ·refine I5 (fun h2 => ?_)
   refine I3 (fun h3 => ?_) (fun h3 => ?_)
   ·refine I5 (fun h4 => ?_)
    refine I3 (fun h5 => ?_) (fun h5 => ?_)
    ·exact IX (IW (fn := Tryz.f44) [.b false, .b true, .b true, .ret [(false, [tI ((aa (x0.extract (2 : Int).toNat (x0.size : Int).toNat)).1)]), (false, [tB true])]] _ rfl (fun _ => rfl) (fun k => by kernel_rfl) (AC h0 <| AC h1 <| AC h2 <| AC h3 <| AC h4 <| AD (I6 (rs' := [(false, [tI ((aa (x0.extract (2 : Int).toNat (x0.size : Int).toNat)).1)]), (false, [tB true])]) (ar (x0.extract (2 : Int).toNat (x0.size : Int).toNat)) (by rw [h5])) <| AN))
    ·exact IX (IW (fn := Tryz.f44) [.b false, .b true, .b true, .ret [(false, [tI ((aa (x0.extract (2 : Int).toNat (x0.size : Int).toNat)).1)]), (false, [tB false])]] _ rfl (fun _ => rfl) (fun k => by kernel_rfl) (AC h0 <| AC h1 <| AC h2 <| AC h3 <| AC h4 <| AD (I6 (rs' := [(false, [tI ((aa (x0.extract (2 : Int).toNat (x0.size : Int).toNat)).1)]), (false, [tB false])]) (ar (x0.extract (2 : Int).toNat (x0.size : Int).toNat)) (by rw [h5])) <| AN))
   ·refine I5 (fun h4 => ?_)
    refine I5 (fun h5 => ?_)
    refine I4 (fun g0 h6 => ?_)
    refine I3 (fun h7 => ?_) (fun h7 => ?_)
    ·refine I3 (fun h8 => ?_) (fun h8 => ?_)
     ·refine I4 (fun g1 h9 => ?_)
      refine I3 (fun h10 => ?_) (fun h10 => ?_)
      ·refine I3 (fun h11 => ?_) (fun h11 => ?_)
       ·refine I3 (fun h12 => ?_) (fun h12 => ?_)
        ·refine I3 (fun h13 => ?_) (fun h13 => ?_)
         ·exact IX (IW (fn := Tryz.f44) [.b false, .b true, .b false, .ret [(false, [.s .own () 1 ((ab x0 (45 : Int)).map etS)])], .row (etS g0), .ret [(false, [tI ((aa g0).1)]), (false, [tB true])], .val (.int .i64 ((ab x0 (45 : Int)).length : Int)), .b true, .row (etS g1), .ret [(false, [tI ((aa g1).1)]), (false, [tB true])], .val (.int .i64 ((ab x0 (45 : Int)).length : Int)), .b true, .b true, .b true] _ rfl (fun _ => rfl) (fun k => by kernel_rfl) (AC h0 <| AC h1 <| AC h2 <| AC h3 <| AD (aN x0 (45 : Int) h4 h5) <| AC (p := 0 ≤ (0 : Int) ∧ (0 : Int) < (((ab x0 (45 : Int)).map etS).length : Int)) (aF h6) <| AC (p := ((ab x0 (45 : Int)).map etS)[0 + (0 : Int).toNat]? = some (etS g0)) (au h6) <| AD (I6 (rs' := [(false, [tI ((aa g0).1)]), (false, [tB true])]) (ar g0) (by rw [h7])) <| AC (p := (((ab x0 (45 : Int)).map etS).length : Int) = ((ab x0 (45 : Int)).length : Int)) ag <| AC h8 <| AC (p := 0 ≤ (1 : Int) ∧ (1 : Int) < (((ab x0 (45 : Int)).map etS).length : Int)) (aF h9) <| AC (p := ((ab x0 (45 : Int)).map etS)[0 + (1 : Int).toNat]? = some (etS g1)) (au h9) <| AD (I6 (rs' := [(false, [tI ((aa g1).1)]), (false, [tB true])]) (ar g1) (by rw [h10])) <| AC (p := (((ab x0 (45 : Int)).map etS).length : Int) = ((ab x0 (45 : Int)).length : Int)) ag <| AC h11 <| AC h12 <| AC h13 <| AN))
         ·exact IX (IW (fn := Tryz.f44) [.b false, .b true, .b false, .ret [(false, [.s .own () 1 ((ab x0 (45 : Int)).map etS)])], .row (etS g0), .ret [(false, [tI ((aa g0).1)]), (false, [tB true])], .val (.int .i64 ((ab x0 (45 : Int)).length : Int)), .b true, .row (etS g1), .ret [(false, [tI ((aa g1).1)]), (false, [tB true])], .val (.int .i64 ((ab x0 (45 : Int)).length : Int)), .b true, .b true, .b false] _ rfl (fun _ => rfl) (fun k => by kernel_rfl) (AC h0 <| AC h1 <| AC h2 <| AC h3 <| AD (aN x0 (45 : Int) h4 h5) <| AC (p := 0 ≤ (0 : Int) ∧ (0 : Int) < (((ab x0 (45 : Int)).map etS).length : Int)) (aF h6) <| AC (p := ((ab x0 (45 : Int)).map etS)[0 + (0 : Int).toNat]? = some (etS g0)) (au h6) <| AD (I6 (rs' := [(false, [tI ((aa g0).1)]), (false, [tB true])]) (ar g0) (by rw [h7])) <| AC (p := (((ab x0 (45 : Int)).map etS).length : Int) = ((ab x0 (45 : Int)).length : Int)) ag <| AC h8 <| AC (p := 0 ≤ (1 : Int) ∧ (1 : Int) < (((ab x0 (45 : Int)).map etS).length : Int)) (aF h9) <| AC (p := ((ab x0 (45 : Int)).map etS)[0 + (1 : Int).toNat]? = some (etS g1)) (au h9) <| AD (I6 (rs' := [(false, [tI ((aa g1).1)]), (false, [tB true])]) (ar g1) (by rw [h10])) <| AC (p := (((ab x0 (45 : Int)).map etS).length : Int) = ((ab x0 (45 : Int)).length : Int)) ag <| AC h11 <| AC h12 <| AC h13 <| AN))
        ·exact IX (IW (fn := Tryz.f44) [.b false, .b true, .b false, .ret [(false, [.s .own () 1 ((ab x0 (45 : Int)).map etS)])], .row (etS g0), .ret [(false, [tI ((aa g0).1)]), (false, [tB true])], .val (.int .i64 ((ab x0 (45 : Int)).length : Int)), .b true, .row (etS g1), .ret [(false, [tI ((aa g1).1)]), (false, [tB true])], .val (.int .i64 ((ab x0 (45 : Int)).length : Int)), .b true, .b false] _ rfl (fun _ => rfl) (fun k => by kernel_rfl) (AC h0 <| AC h1 <| AC h2 <| AC h3 <| AD (aN x0 (45 : Int) h4 h5) <| AC (p := 0 ≤ (0 : Int) ∧ (0 : Int) < (((ab x0 (45 : Int)).map etS).length : Int)) (aF h6) <| AC (p := ((ab x0 (45 : Int)).map etS)[0 + (0 : Int).toNat]? = some (etS g0)) (au h6) <| AD (I6 (rs' := [(false, [tI ((aa g0).1)]), (false, [tB true])]) (ar g0) (by rw [h7])) <| AC (p := (((ab x0 (45 : Int)).map etS).length : Int) = ((ab x0 (45 : Int)).length : Int)) ag <| AC h8 <| AC (p := 0 ≤ (1 : Int) ∧ (1 : Int) < (((ab x0 (45 : Int)).map etS).length : Int)) (aF h9) <| AC (p := ((ab x0 (45 : Int)).map etS)[0 + (1 : Int).toNat]? = some (etS g1)) (au h9) <| AD (I6 (rs' := [(false, [tI ((aa g1).1)]), (false, [tB true])]) (ar g1) (by rw [h10])) <| AC (p := (((ab x0 (45 : Int)).map etS).length : Int) = ((ab x0 (45 : Int)).length : Int)) ag <| AC h11 <| AC h12 <| AN))
       ·exact IX (IW (fn := Tryz.f44) [.b false, .b true, .b false, .ret [(false, [.s .own () 1 ((ab x0 (45 : Int)).map etS)])], .row (etS g0), .ret [(false, [tI ((aa g0).1)]), (false, [tB true])], .val (.int .i64 ((ab x0 (45 : Int)).length : Int)), .b true, .row (etS g1), .ret [(false, [tI ((aa g1).1)]), (false, [tB true])], .val (.int .i64 ((ab x0 (45 : Int)).length : Int)), .b false] _ rfl (fun _ => rfl) (fun k => by kernel_rfl) (AC h0 <| AC h1 <| AC h2 <| AC h3 <| AD (aN x0 (45 : Int) h4 h5) <| AC (p := 0 ≤ (0 : Int) ∧ (0 : Int) < (((ab x0 (45 : Int)).map etS).length : Int)) (aF h6) <| AC (p := ((ab x0 (45 : Int)).map etS)[0 + (0 : Int).toNat]? = some (etS g0)) (au h6) <| AD (I6 (rs' := [(false, [tI ((aa g0).1)]), (false, [tB true])]) (ar g0) (by rw [h7])) <| AC (p := (((ab x0 (45 : Int)).map etS).length : Int) = ((ab x0 (45 : Int)).length : Int)) ag <| AC h8 <| AC (p := 0 ≤ (1 : Int) ∧ (1 : Int) < (((ab x0 (45 : Int)).map etS).length : Int)) (aF h9) <| AC (p := ((ab x0 (45 : Int)).map etS)[0 + (1 : Int).toNat]? = some (etS g1)) (au h9) <| AD (I6 (rs' := [(false, [tI ((aa g1).1)]), (false, [tB true])]) (ar g1) (by rw [h10])) <| AC (p := (((ab x0 (45 : Int)).map etS).length : Int) = ((ab x0 (45 : Int)).length : Int)) ag <| AC h11 <| AN))
      ·exact IX (IW (fn := Tryz.f44) [.b false, .b true, .b false, .ret [(false, [.s .own () 1 ((ab x0 (45 : Int)).map etS)])], .row (etS g0), .ret [(false, [tI ((aa g0).1)]), (false, [tB true])], .val (.int .i64 ((ab x0 (45 : Int)).length : Int)), .b true, .row (etS g1), .ret [(false, [tI ((aa g1).1)]), (false, [tB false])]] _ rfl (fun _ => rfl) (fun k => by kernel_rfl) (AC h0 <| AC h1 <| AC h2 <| AC h3 <| AD (aN x0 (45 : Int) h4 h5) <| AC (p := 0 ≤ (0 : Int) ∧ (0 : Int) < (((ab x0 (45 : Int)).map etS).length : Int)) (aF h6) <| AC (p := ((ab x0 (45 : Int)).map etS)[0 + (0 : Int).toNat]? = some (etS g0)) (au h6) <| AD (I6 (rs' := [(false, [tI ((aa g0).1)]), (false, [tB true])]) (ar g0) (by rw [h7])) <| AC (p := (((ab x0 (45 : Int)).map etS).length : Int) = ((ab x0 (45 : Int)).length : Int)) ag <| AC h8 <| AC (p := 0 ≤ (1 : Int) ∧ (1 : Int) < (((ab x0 (45 : Int)).map etS).length : Int)) (aF h9) <| AC (p := ((ab x0 (45 : Int)).map etS)[0 + (1 : Int).toNat]? = some (etS g1)) (au h9) <| AD (I6 (rs' := [(false, [tI ((aa g1).1)]), (false, [tB false])]) (ar g1) (by rw [h10])) <| AN))
     ·refine I3 (fun h9 => ?_) (fun h9 => ?_)
      ·refine I3 (fun h10 => ?_) (fun h10 => ?_)
       ·refine I3 (fun h11 => ?_) (fun h11 => ?_)
        ·exact IX (IW (fn := Tryz.f44) [.b false, .b true, .b false, .ret [(false, [.s .own () 1 ((ab x0 (45 : Int)).map etS)])], .row (etS g0), .ret [(false, [tI ((aa g0).1)]), (false, [tB true])], .val (.int .i64 ((ab x0 (45 : Int)).length : Int)), .b false, .val (.int .i64 ((ab x0 (45 : Int)).length : Int)), .b true, .b true, .b true] _ rfl (fun _ => rfl) (fun k => by kernel_rfl) (AC h0 <| AC h1 <| AC h2 <| AC h3 <| AD (aN x0 (45 : Int) h4 h5) <| AC (p := 0 ≤ (0 : Int) ∧ (0 : Int) < (((ab x0 (45 : Int)).map etS).length : Int)) (aF h6) <| AC (p := ((ab x0 (45 : Int)).map etS)[0 + (0 : Int).toNat]? = some (etS g0)) (au h6) <| AD (I6 (rs' := [(false, [tI ((aa g0).1)]), (false, [tB true])]) (ar g0) (by rw [h7])) <| AC (p := (((ab x0 (45 : Int)).map etS).length : Int) = ((ab x0 (45 : Int)).length : Int)) ag <| AC h8 <| AC (p := (((ab x0 (45 : Int)).map etS).length : Int) = ((ab x0 (45 : Int)).length : Int)) ag <| AC h9 <| AC h10 <| AC h11 <| AN))
        ·exact IX (IW (fn := Tryz.f44) [.b false, .b true, .b false, .ret [(false, [.s .own () 1 ((ab x0 (45 : Int)).map etS)])], .row (etS g0), .ret [(false, [tI ((aa g0).1)]), (false, [tB true])], .val (.int .i64 ((ab x0 (45 : Int)).length : Int)), .b false, .val (.int .i64 ((ab x0 (45 : Int)).length : Int)), .b true, .b true, .b false] _ rfl (fun _ => rfl) (fun k => by kernel_rfl) (AC h0 <| AC h1 <| AC h2 <| AC h3 <| AD (aN x0 (45 : Int) h4 h5) <| AC (p := 0 ≤ (0 : Int) ∧ (0 : Int) < (((ab x0 (45 : Int)).map etS).length : Int)) (aF h6) <| AC (p := ((ab x0 (45 : Int)).map etS)[0 + (0 : Int).toNat]? = some (etS g0)) (au h6) <| AD (I6 (rs' := [(false, [tI ((aa g0).1)]), (false, [tB true])]) (ar g0) (by rw [h7])) <| AC (p := (((ab x0 (45 : Int)).map etS).length : Int) = ((ab x0 (45 : Int)).length : Int)) ag <| AC h8 <| AC (p := (((ab x0 (45 : Int)).map etS).length : Int) = ((ab x0 (45 : Int)).length : Int)) ag <| AC h9 <| AC h10 <| AC h11 <| AN))
       ·exact IX (IW (fn := Tryz.f44) [.b false, .b true, .b false, .ret [(false, [.s .own () 1 ((ab x0 (45 : Int)).map etS)])], .row (etS g0), .ret [(false, [tI ((aa g0).1)]), (false, [tB true])], .val (.int .i64 ((ab x0 (45 : Int)).length : Int)), .b false, .val (.int .i64 ((ab x0 (45 : Int)).length : Int)), .b true, .b false] _ rfl (fun _ => rfl) (fun k => by kernel_rfl) (AC h0 <| AC h1 <| AC h2 <| AC h3 <| AD (aN x0 (45 : Int) h4 h5) <| AC (p := 0 ≤ (0 : Int) ∧ (0 : Int) < (((ab x0 (45 : Int)).map etS).length : Int)) (aF h6) <| AC (p := ((ab x0 (45 : Int)).map etS)[0 + (0 : Int).toNat]? = some (etS g0)) (au h6) <| AD (I6 (rs' := [(false, [tI ((aa g0).1)]), (false, [tB true])]) (ar g0) (by rw [h7])) <| AC (p := (((ab x0 (45 : Int)).map etS).length : Int) = ((ab x0 (45 : Int)).length : Int)) ag <| AC h8 <| AC (p := (((ab x0 (45 : Int)).map etS).length : Int) = ((ab x0 (45 : Int)).length : Int)) ag <| AC h9 <| AC h10 <| AN))
      ·exact IX (IW (fn := Tryz.f44) [.b false, .b true, .b false, .ret [(false, [.s .own () 1 ((ab x0 (45 : Int)).map etS)])], .row (etS g0), .ret [(false, [tI ((aa g0).1)]), (false, [tB true])], .val (.int .i64 ((ab x0 (45 : Int)).length : Int)), .b false, .val (.int .i64 ((ab x0 (45 : Int)).length : Int)), .b false] _ rfl (fun _ => rfl) (fun k => by kernel_rfl) (AC h0 <| AC h1 <| AC h2 <| AC h3 <| AD (aN x0 (45 : Int) h4 h5) <| AC (p := 0 ≤ (0 : Int) ∧ (0 : Int) < (((ab x0 (45 : Int)).map etS).length : Int)) (aF h6) <| AC (p := ((ab x0 (45 : Int)).map etS)[0 + (0 : Int).toNat]? = some (etS g0)) (au h6) <| AD (I6 (rs' := [(false, [tI ((aa g0).1)]), (false, [tB true])]) (ar g0) (by rw [h7])) <| AC (p := (((ab x0 (45 : Int)).map etS).length : Int) = ((ab x0 (45 : Int)).length : Int)) ag <| AC h8 <| AC (p := (((ab x0 (45 : Int)).map etS).length : Int) = ((ab x0 (45 : Int)).length : Int)) ag <| AC h9 <| AN))
    ·refine I3 (fun h8 => ?_) (fun h8 => ?_)
     ·refine I4 (fun g1 h9 => ?_)
      exact IX (IW (fn := Tryz.f44) [.b false, .b true, .b false, .ret [(false, [.s .own () 1 ((ab x0 (45 : Int)).map etS)])], .row (etS g0), .ret [(false, [tI ((aa g0).1)]), (false, [tB false])], .val (.int .i64 ((ab x0 (45 : Int)).length : Int)), .b true, .row (etS g1), .ret [(false, [tI ((aa g1).1)]), (false, [tB ((aa g1).2)])]] _ rfl (fun _ => rfl) (fun k => by kernel_rfl) (AC h0 <| AC h1 <| AC h2 <| AC h3 <| AD (aN x0 (45 : Int) h4 h5) <| AC (p := 0 ≤ (0 : Int) ∧ (0 : Int) < (((ab x0 (45 : Int)).map etS).length : Int)) (aF h6) <| AC (p := ((ab x0 (45 : Int)).map etS)[0 + (0 : Int).toNat]? = some (etS g0)) (au h6) <| AD (I6 (rs' := [(false, [tI ((aa g0).1)]), (false, [tB false])]) (ar g0) (by rw [h7])) <| AC (p := (((ab x0 (45 : Int)).map etS).length : Int) = ((ab x0 (45 : Int)).length : Int)) ag <| AC h8 <| AC (p := 0 ≤ (1 : Int) ∧ (1 : Int) < (((ab x0 (45 : Int)).map etS).length : Int)) (aF h9) <| AC (p := ((ab x0 (45 : Int)).map etS)[0 + (1 : Int).toNat]? = some (etS g1)) (au h9) <| AD (ar g1) <| AN))
     ·exact IX (IW (fn := Tryz.f44) [.b false, .b true, .b false, .ret [(false, [.s .own () 1 ((ab x0 (45 : Int)).map etS)])], .row (etS g0), .ret [(false, [tI ((aa g0).1)]), (false, [tB false])], .val (.int .i64 ((ab x0 (45 : Int)).length : Int)), .b false] _ rfl (fun _ => rfl) (fun k => by kernel_rfl) (AC h0 <| AC h1 <| AC h2 <| AC h3 <| AD (aN x0 (45 : Int) h4 h5) <| AC (p := 0 ≤ (0 : Int) ∧ (0 : Int) < (((ab x0 (45 : Int)).map etS).length : Int)) (aF h6) <| AC (p := ((ab x0 (45 : Int)).map etS)[0 + (0 : Int).toNat]? = some (etS g0)) (au h6) <| AD (I6 (rs' := [(false, [tI ((aa g0).1)]), (false, [tB false])]) (ar g0) (by rw [h7])) <| AC (p := (((ab x0 (45 : Int)).map etS).length : Int) = ((ab x0 (45 : Int)).length : Int)) ag <| AC h8 <| AN))
  ·refine I5 (fun h2 => ?_)
   refine I5 (fun h3 => ?_)
   refine I4 (fun g0 h4 => ?_)
   refine I3 (fun h5 => ?_) (fun h5 => ?_)
   ·refine I3 (fun h6 => ?_) (fun h6 => ?_)
    ·refine I4 (fun g1 h7 => ?_)
     refine I3 (fun h8 => ?_) (fun h8 => ?_)
     ·refine I3 (fun h9 => ?_) (fun h9 => ?_)
      ·refine I3 (fun h10 => ?_) (fun h10 => ?_)
       ·refine I3 (fun h11 => ?_) (fun h11 => ?_)
        ·exact IX (IW (fn := Tryz.f44) [.b false, .b false, .ret [(false, [.s .own () 1 ((ab x0 (45 : Int)).map etS)])], .row (etS g0), .ret [(false, [tI ((aa g0).1)]), (false, [tB true])], .val (.int .i64 ((ab x0 (45 : Int)).length : Int)), .b true, .row (etS g1), .ret [(false, [tI ((aa g1).1)]), (false, [tB true])], .val (.int .i64 ((ab x0 (45 : Int)).length : Int)), .b true, .b true, .b true] _ rfl (fun _ => rfl) (fun k => by kernel_rfl) (AC h0 <| AC h1 <| AD (aN x0 (45 : Int) h2 h3) <| AC (p := 0 ≤ (0 : Int) ∧ (0 : Int) < (((ab x0 (45 : Int)).map etS).length : Int)) (aF h4) <| AC (p := ((ab x0 (45 : Int)).map etS)[0 + (0 : Int).toNat]? = some (etS g0)) (au h4) <| AD (I6 (rs' := [(false, [tI ((aa g0).1)]), (false, [tB true])]) (ar g0) (by rw [h5])) <| AC (p := (((ab x0 (45 : Int)).map etS).length : Int) = ((ab x0 (45 : Int)).length : Int)) ag <| AC h6 <| AC (p := 0 ≤ (1 : Int) ∧ (1 : Int) < (((ab x0 (45 : Int)).map etS).length : Int)) (aF h7) <| AC (p := ((ab x0 (45 : Int)).map etS)[0 + (1 : Int).toNat]? = some (etS g1)) (au h7) <| AD (I6 (rs' := [(false, [tI ((aa g1).1)]), (false, [tB true])]) (ar g1) (by rw [h8])) <| AC (p := (((ab x0 (45 : Int)).map etS).length : Int) = ((ab x0 (45 : Int)).length : Int)) ag <| AC h9 <| AC h10 <| AC h11 <| AN))
        ·exact IX (IW (fn := Tryz.f44) [.b false, .b false, .ret [(false, [.s .own () 1 ((ab x0 (45 : Int)).map etS)])], .row (etS g0), .ret [(false, [tI ((aa g0).1)]), (false, [tB true])], .val (.int .i64 ((ab x0 (45 : Int)).length : Int)), .b true, .row (etS g1), .ret [(false, [tI ((aa g1).1)]), (false, [tB true])], .val (.int .i64 ((ab x0 (45 : Int)).length : Int)), .b true, .b true, .b false] _ rfl (fun _ => rfl) (fun k => by kernel_rfl) (AC h0 <| AC h1 <| AD (aN x0 (45 : Int) h2 h3) <| AC (p := 0 ≤ (0 : Int) ∧ (0 : Int) < (((ab x0 (45 : Int)).map etS).length : Int)) (aF h4) <| AC (p := ((ab x0 (45 : Int)).map etS)[0 + (0 : Int).toNat]? = some (etS g0)) (au h4) <| AD (I6 (rs' := [(false, [tI ((aa g0).1)]), (false, [tB true])]) (ar g0) (by rw [h5])) <| AC (p := (((ab x0 (45 : Int)).map etS).length : Int) = ((ab x0 (45 : Int)).length : Int)) ag <| AC h6 <| AC (p := 0 ≤ (1 : Int) ∧ (1 : Int) < (((ab x0 (45 : Int)).map etS).length : Int)) (aF h7) <| AC (p := ((ab x0 (45 : Int)).map etS)[0 + (1 : Int).toNat]? = some (etS g1)) (au h7) <| AD (I6 (rs' := [(false, [tI ((aa g1).1)]), (false, [tB true])]) (ar g1) (by rw [h8])) <| AC (p := (((ab x0 (45 : Int)).map etS).length : Int) = ((ab x0 (45 : Int)).length : Int)) ag <| AC h9 <| AC h10 <| AC h11 <| AN))
       ·exact IX (IW (fn := Tryz.f44) [.b false, .b false, .ret [(false, [.s .own () 1 ((ab x0 (45 : Int)).map etS)])], .row (etS g0), .ret [(false, [tI ((aa g0).1)]), (false, [tB true])], .val (.int .i64 ((ab x0 (45 : Int)).length : Int)), .b true, .row (etS g1), .ret [(false, [tI ((aa g1).1)]), (false, [tB true])], .val (.int .i64 ((ab x0 (45 : Int)).length : Int)), .b true, .b false] _ rfl (fun _ => rfl) (fun k => by kernel_rfl) (AC h0 <| AC h1 <| AD (aN x0 (45 : Int) h2 h3) <| AC (p := 0 ≤ (0 : Int) ∧ (0 : Int) < (((ab x0 (45 : Int)).map etS).length : Int)) (aF h4) <| AC (p := ((ab x0 (45 : Int)).map etS)[0 + (0 : Int).toNat]? = some (etS g0)) (au h4) <| AD (I6 (rs' := [(false, [tI ((aa g0).1)]), (false, [tB true])]) (ar g0) (by rw [h5])) <| AC (p := (((ab x0 (45 : Int)).map etS).length : Int) = ((ab x0 (45 : Int)).length : Int)) ag <| AC h6 <| AC (p := 0 ≤ (1 : Int) ∧ (1 : Int) < (((ab x0 (45 : Int)).map etS).length : Int)) (aF h7) <| AC (p := ((ab x0 (45 : Int)).map etS)[0 + (1 : Int).toNat]? = some (etS g1)) (au h7) <| AD (I6 (rs' := [(false, [tI ((aa g1).1)]), (false, [tB true])]) (ar g1) (by rw [h8])) <| AC (p := (((ab x0 (45 : Int)).map etS).length : Int) = ((ab x0 (45 : Int)).length : Int)) ag <| AC h9 <| AC h10 <| AN))
      ·exact IX (IW (fn := Tryz.f44) [.b false, .b false, .ret [(false, [.s .own () 1 ((ab x0 (45 : Int)).map etS)])], .row (etS g0), .ret [(false, [tI ((aa g0).1)]), (false, [tB true])], .val (.int .i64 ((ab x0 (45 : Int)).length : Int)), .b true, .row (etS g1), .ret [(false, [tI ((aa g1).1)]), (false, [tB true])], .val (.int .i64 ((ab x0 (45 : Int)).length : Int)), .b false] _ rfl (fun _ => rfl) (fun k => by kernel_rfl) (AC h0 <| AC h1 <| AD (aN x0 (45 : Int) h2 h3) <| AC (p := 0 ≤ (0 : Int) ∧ (0 : Int) < (((ab x0 (45 : Int)).map etS).length : Int)) (aF h4) <| AC (p := ((ab x0 (45 : Int)).map etS)[0 + (0 : Int).toNat]? = some (etS g0)) (au h4) <| AD (I6 (rs' := [(false, [tI ((aa g0).1)]), (false, [tB true])]) (ar g0) (by rw [h5])) <| AC (p := (((ab x0 (45 : Int)).map etS).length : Int) = ((ab x0 (45 : Int)).length : Int)) ag <| AC h6 <| AC (p := 0 ≤ (1 : Int) ∧ (1 : Int) < (((ab x0 (45 : Int)).map etS).length : Int)) (aF h7) <| AC (p := ((ab x0 (45 : Int)).map etS)[0 + (1 : Int).toNat]? = some (etS g1)) (au h7) <| AD (I6 (rs' := [(false, [tI ((aa g1).1)]), (false, [tB true])]) (ar g1) (by rw [h8])) <| AC (p := (((ab x0 (45 : Int)).map etS).length : Int) = ((ab x0 (45 : Int)).length : Int)) ag <| AC h9 <| AN))
     ·exact IX (IW (fn := Tryz.f44) [.b false, .b false, .ret [(false, [.s .own () 1 ((ab x0 (45 : Int)).map etS)])], .row (etS g0), .ret [(false, [tI ((aa g0).1)]), (false, [tB true])], .val (.int .i64 ((ab x0 (45 : Int)).length : Int)), .b true, .row (etS g1), .ret [(false, [tI ((aa g1).1)]), (false, [tB false])]] _ rfl (fun _ => rfl) (fun k => by kernel_rfl) (AC h0 <| AC h1 <| AD (aN x0 (45 : Int) h2 h3) <| AC (p := 0 ≤ (0 : Int) ∧ (0 : Int) < (((ab x0 (45 : Int)).map etS).length : Int)) (aF h4) <| AC (p := ((ab x0 (45 : Int)).map etS)[0 + (0 : Int).toNat]? = some (etS g0)) (au h4) <| AD (I6 (rs' := [(false, [tI ((aa g0).1)]), (false, [tB true])]) (ar g0) (by rw [h5])) <| AC (p := (((ab x0 (45 : Int)).map etS).length : Int) = ((ab x0 (45 : Int)).length : Int)) ag <| AC h6 <| AC (p := 0 ≤ (1 : Int) ∧ (1 : Int) < (((ab x0 (45 : Int)).map etS).length : Int)) (aF h7) <| AC (p := ((ab x0 (45 : Int)).map etS)[0 + (1 : Int).toNat]? = some (etS g1)) (au h7) <| AD (I6 (rs' := [(false, [tI ((aa g1).1)]), (false, [tB false])]) (ar g1) (by rw [h8])) <| AN))
    ·refine I3 (fun h7 => ?_) (fun h7 => ?_)
     ·refine I3 (fun h8 => ?_) (fun h8 => ?_)
      ·refine I3 (fun h9 => ?_) (fun h9 => ?_)
       ·exact IX (IW (fn := Tryz.f44) [.b false, .b false, .ret [(false, [.s .own () 1 ((ab x0 (45 : Int)).map etS)])], .row (etS g0), .ret [(false, [tI ((aa g0).1)]), (false, [tB true])], .val (.int .i64 ((ab x0 (45 : Int)).length : Int)), .b false, .val (.int .i64 ((ab x0 (45 : Int)).length : Int)), .b true, .b true, .b true] _ rfl (fun _ => rfl) (fun k => by kernel_rfl) (AC h0 <| AC h1 <| AD (aN x0 (45 : Int) h2 h3) <| AC (p := 0 ≤ (0 : Int) ∧ (0 : Int) < (((ab x0 (45 : Int)).map etS).length : Int)) (aF h4) <| AC (p := ((ab x0 (45 : Int)).map etS)[0 + (0 : Int).toNat]? = some (etS g0)) (au h4) <| AD (I6 (rs' := [(false, [tI ((aa g0).1)]), (false, [tB true])]) (ar g0) (by rw [h5])) <| AC (p := (((ab x0 (45 : Int)).map etS).length : Int) = ((ab x0 (45 : Int)).length : Int)) ag <| AC h6 <| AC (p := (((ab x0 (45 : Int)).map etS).length : Int) = ((ab x0 (45 : Int)).length : Int)) ag <| AC h7 <| AC h8 <| AC h9 <| AN))
       ·exact IX (IW (fn := Tryz.f44) [.b false, .b false, .ret [(false, [.s .own () 1 ((ab x0 (45 : Int)).map etS)])], .row (etS g0), .ret [(false, [tI ((aa g0).1)]), (false, [tB true])], .val (.int .i64 ((ab x0 (45 : Int)).length : Int)), .b false, .val (.int .i64 ((ab x0 (45 : Int)).length : Int)), .b true, .b true, .b false] _ rfl (fun _ => rfl) (fun k => by kernel_rfl) (AC h0 <| AC h1 <| AD (aN x0 (45 : Int) h2 h3) <| AC (p := 0 ≤ (0 : Int) ∧ (0 : Int) < (((ab x0 (45 : Int)).map etS).length : Int)) (aF h4) <| AC (p := ((ab x0 (45 : Int)).map etS)[0 + (0 : Int).toNat]? = some (etS g0)) (au h4) <| AD (I6 (rs' := [(false, [tI ((aa g0).1)]), (false, [tB true])]) (ar g0) (by rw [h5])) <| AC (p := (((ab x0 (45 : Int)).map etS).length : Int) = ((ab x0 (45 : Int)).length : Int)) ag <| AC h6 <| AC (p := (((ab x0 (45 : Int)).map etS).length : Int) = ((ab x0 (45 : Int)).length : Int)) ag <| AC h7 <| AC h8 <| AC h9 <| AN))
      ·exact IX (IW (fn := Tryz.f44) [.b false, .b false, .ret [(false, [.s .own () 1 ((ab x0 (45 : Int)).map etS)])], .row (etS g0), .ret [(false, [tI ((aa g0).1)]), (false, [tB true])], .val (.int .i64 ((ab x0 (45 : Int)).length : Int)), .b false, .val (.int .i64 ((ab x0 (45 : Int)).length : Int)), .b true, .b false] _ rfl (fun _ => rfl) (fun k => by kernel_rfl) (AC h0 <| AC h1 <| AD (aN x0 (45 : Int) h2 h3) <| AC (p := 0 ≤ (0 : Int) ∧ (0 : Int) < (((ab x0 (45 : Int)).map etS).length : Int)) (aF h4) <| AC (p := ((ab x0 (45 : Int)).map etS)[0 + (0 : Int).toNat]? = some (etS g0)) (au h4) <| AD (I6 (rs' := [(false, [tI ((aa g0).1)]), (false, [tB true])]) (ar g0) (by rw [h5])) <| AC (p := (((ab x0 (45 : Int)).map etS).length : Int) = ((ab x0 (45 : Int)).length : Int)) ag <| AC h6 <| AC (p := (((ab x0 (45 : Int)).map etS).length : Int) = ((ab x0 (45 : Int)).length : Int)) ag <| AC h7 <| AC h8 <| AN))
     ·exact IX (IW (fn := Tryz.f44) [.b false, .b false, .ret [(false, [.s .own () 1 ((ab x0 (45 : Int)).map etS)])], .row (etS g0), .ret [(false, [tI ((aa g0).1)]), (false, [tB true])], .val (.int .i64 ((ab x0 (45 : Int)).length : Int)), .b false, .val (.int .i64 ((ab x0 (45 : Int)).length : Int)), .b false] _ rfl (fun _ => rfl) (fun k => by kernel_rfl) (AC h0 <| AC h1 <| AD (aN x0 (45 : Int) h2 h3) <| AC (p := 0 ≤ (0 : Int) ∧ (0 : Int) < (((ab x0 (45 : Int)).map etS).length : Int)) (aF h4) <| AC (p := ((ab x0 (45 : Int)).map etS)[0 + (0 : Int).toNat]? = some (etS g0)) (au h4) <| AD (I6 (rs' := [(false, [tI ((aa g0).1)]), (false, [tB true])]) (ar g0) (by rw [h5])) <| AC (p := (((ab x0 (45 : Int)).map etS).length : Int) = ((ab x0 (45 : Int)).length : Int)) ag <| AC h6 <| AC (p := (((ab x0 (45 : Int)).map etS).length : Int) = ((ab x0 (45 : Int)).length : Int)) ag <| AC h7 <| AN))
   ·refine I3 (fun h6 => ?_) (fun h6 => ?_)
    ·refine I4 (fun g1 h7 => ?_)
     exact IX (IW (fn := Tryz.f44) [.b false, .b false, .ret [(false, [.s .own () 1 ((ab x0 (45 : Int)).map etS)])], .row (etS g0), .ret [(false, [tI ((aa g0).1)]), (false, [tB false])], .val (.int .i64 ((ab x0 (45 : Int)).length : Int)), .b true, .row (etS g1), .ret [(false, [tI ((aa g1).1)]), (false, [tB ((aa g1).2)])]] _ rfl (fun _ => rfl) (fun k => by kernel_rfl) (AC h0 <| AC h1 <| AD (aN x0 (45 : Int) h2 h3) <| AC (p := 0 ≤ (0 : Int) ∧ (0 : Int) < (((ab x0 (45 : Int)).map etS).length : Int)) (aF h4) <| AC (p := ((ab x0 (45 : Int)).map etS)[0 + (0 : Int).toNat]? = some (etS g0)) (au h4) <| AD (I6 (rs' := [(false, [tI ((aa g0).1)]), (false, [tB false])]) (ar g0) (by rw [h5])) <| AC (p := (((ab x0 (45 : Int)).map etS).length : Int) = ((ab x0 (45 : Int)).length : Int)) ag <| AC h6 <| AC (p := 0 ≤ (1 : Int) ∧ (1 : Int) < (((ab x0 (45 : Int)).map etS).length : Int)) (aF h7) <| AC (p := ((ab x0 (45 : Int)).map etS)[0 + (1 : Int).toNat]? = some (etS g1)) (au h7) <| AD (ar g1) <| AN))
    ·exact IX (IW (fn := Tryz.f44) [.b false, .b false, .ret [(false, [.s .own () 1 ((ab x0 (45 : Int)).map etS)])], .row (etS g0), .ret [(false, [tI ((aa g0).1)]), (false, [tB false])], .val (.int .i64 ((ab x0 (45 : Int)).length : Int)), .b false] _ rfl (fun _ => rfl) (fun k => by kernel_rfl) (AC h0 <| AC h1 <| AD (aN x0 (45 : Int) h2 h3) <| AC (p := 0 ≤ (0 : Int) ∧ (0 : Int) < (((ab x0 (45 : Int)).map etS).length : Int)) (aF h4) <| AC (p := ((ab x0 (45 : Int)).map etS)[0 + (0 : Int).toNat]? = some (etS g0)) (au h4) <| AD (I6 (rs' := [(false, [tI ((aa g0).1)]), (false, [tB false])]) (ar g0) (by rw [h5])) <| AC (p := (((ab x0 (45 : Int)).map etS).length : Int) = ((ab x0 (45 : Int)).length : Int)) ag <| AC h6 <| AN))
noncomputable def jt (x0 : ByteArray) (x1 x2 : Int) : Option (Int × Int × Int × Bool) :=
  cond (x0.toList == (⟨#[42]⟩ : ByteArray).toList)
   (some (x1, x2, (1 : Int), true))
   (cond ((be x0 (⟨#[42, 47]⟩ : ByteArray)).2)
    (cond ((aa ((be x0 (⟨#[42, 47]⟩ : ByteArray)).1)).2)
     (some (x1, x2, (aa ((be x0 (⟨#[42, 47]⟩ : ByteArray)).1)).1, decide (((aa ((be x0 (⟨#[42, 47]⟩ : ByteArray)).1)).1) ≥ (1 : Int))))
     (some (x1, x2, (aa ((be x0 (⟨#[42, 47]⟩ : ByteArray)).1)).1, false)))
    (if x0.size < 4294967281 then cond ((aC x0 (⟨#[45]⟩ : ByteArray)).2.2)
     (cond ((aa ((aC x0 (⟨#[45]⟩ : ByteArray)).1)).2)
      (cond ((aa ((aC x0 (⟨#[45]⟩ : ByteArray)).2.1)).2)
       (cond (decide (((aa ((aC x0 (⟨#[45]⟩ : ByteArray)).1)).1) ≥ x1))
        (cond (decide (((aa ((aC x0 (⟨#[45]⟩ : ByteArray)).1)).1) ≤ ((aa ((aC x0 (⟨#[45]⟩ : ByteArray)).2.1)).1)))
         (some ((aa ((aC x0 (⟨#[45]⟩ : ByteArray)).1)).1, (aa ((aC x0 (⟨#[45]⟩ : ByteArray)).2.1)).1, (1 : Int), decide (((aa ((aC x0 (⟨#[45]⟩ : ByteArray)).2.1)).1) ≤ x2)))
         (some ((aa ((aC x0 (⟨#[45]⟩ : ByteArray)).1)).1, (aa ((aC x0 (⟨#[45]⟩ : ByteArray)).2.1)).1, (1 : Int), false)))
        (some ((aa ((aC x0 (⟨#[45]⟩ : ByteArray)).1)).1, (aa ((aC x0 (⟨#[45]⟩ : ByteArray)).2.1)).1, (1 : Int), false)))
       (some ((aa ((aC x0 (⟨#[45]⟩ : ByteArray)).1)).1, (aa ((aC x0 (⟨#[45]⟩ : ByteArray)).2.1)).1, (1 : Int), false)))
      (some ((aa ((aC x0 (⟨#[45]⟩ : ByteArray)).1)).1, (aa ((aC x0 (⟨#[45]⟩ : ByteArray)).2.1)).1, (1 : Int), false)))
     (cond ((aa ((aC x0 (⟨#[45]⟩ : ByteArray)).1)).2)
      (cond (decide (((aa ((aC x0 (⟨#[45]⟩ : ByteArray)).1)).1) ≥ x1))
       (cond (decide (((aa ((aC x0 (⟨#[45]⟩ : ByteArray)).1)).1) ≤ ((aa ((aC x0 (⟨#[45]⟩ : ByteArray)).1)).1)))
        (some ((aa ((aC x0 (⟨#[45]⟩ : ByteArray)).1)).1, (aa ((aC x0 (⟨#[45]⟩ : ByteArray)).1)).1, (1 : Int), decide (((aa ((aC x0 (⟨#[45]⟩ : ByteArray)).1)).1) ≤ x2)))
        (some ((aa ((aC x0 (⟨#[45]⟩ : ByteArray)).1)).1, (aa ((aC x0 (⟨#[45]⟩ : ByteArray)).1)).1, (1 : Int), false)))
       (some ((aa ((aC x0 (⟨#[45]⟩ : ByteArray)).1)).1, (aa ((aC x0 (⟨#[45]⟩ : ByteArray)).1)).1, (1 : Int), false)))
      (some ((aa ((aC x0 (⟨#[45]⟩ : ByteArray)).1)).1, (aa ((aC x0 (⟨#[45]⟩ : ByteArray)).1)).1, (1 : Int), false))) else none))
theorem Ck (x0 : ByteArray) (x1 x2 : Int) : Ans (jt x0 x1 x2) (fun r => Does E 61 [.one (tS x0), .one (tI x1), .one (tI x2)] [(false, [tI r.1]), (false, [tI r.2.1]), (false, [tI r.2.2.1]), (false, [tB r.2.2.2])]) := by
 unfold jt
 refine I3 (fun h0 => ?_) (fun h0 => ?_)
 ·exact IX (IW (fn := Tryz.f61) [.b true] _ rfl (fun _ => rfl) (fun k => by kernel_rfl) (AC h0 <| AN))
 ·refine I3 (fun h1 => ?_) (fun h1 => ?_)
  ·refine I3 (fun h2 => ?_) (fun h2 => ?_)
   ·exact IX (IW (fn := Tryz.f61) [.b false, .ret [(false, [tS ((be x0 (⟨#[42, 47]⟩ : ByteArray)).1)]), (false, [tB true])], .ret [(false, [tI ((aa ((be x0 (⟨#[42, 47]⟩ : ByteArray)).1)).1)]), (false, [tB true])]] _ rfl (fun _ => rfl) (fun k => by kernel_rfl) (AC h0 <| AD (I6 (rs' := [(false, [tS ((be x0 (⟨#[42, 47]⟩ : ByteArray)).1)]), (false, [tB true])]) (bd x0 (⟨#[42, 47]⟩ : ByteArray)) (by rw [h1])) <| AD (I6 (rs' := [(false, [tI ((aa ((be x0 (⟨#[42, 47]⟩ : ByteArray)).1)).1)]), (false, [tB true])]) (a6 ((be x0 (⟨#[42, 47]⟩ : ByteArray)).1)) (by rw [h2])) <| AN))
   ·exact IX (IW (fn := Tryz.f61) [.b false, .ret [(false, [tS ((be x0 (⟨#[42, 47]⟩ : ByteArray)).1)]), (false, [tB true])], .ret [(false, [tI ((aa ((be x0 (⟨#[42, 47]⟩ : ByteArray)).1)).1)]), (false, [tB false])]] _ rfl (fun _ => rfl) (fun k => by kernel_rfl) (AC h0 <| AD (I6 (rs' := [(false, [tS ((be x0 (⟨#[42, 47]⟩ : ByteArray)).1)]), (false, [tB true])]) (bd x0 (⟨#[42, 47]⟩ : ByteArray)) (by rw [h1])) <| AD (I6 (rs' := [(false, [tI ((aa ((be x0 (⟨#[42, 47]⟩ : ByteArray)).1)).1)]), (false, [tB false])]) (a6 ((be x0 (⟨#[42, 47]⟩ : ByteArray)).1)) (by rw [h2])) <| AN))
  ·refine I5 (fun h2 => ?_)
   refine I3 (fun h3 => ?_) (fun h3 => ?_)
   ·refine I3 (fun h4 => ?_) (fun h4 => ?_)
    ·refine I3 (fun h5 => ?_) (fun h5 => ?_)
     ·refine I3 (fun h6 => ?_) (fun h6 => ?_)
      ·refine I3 (fun h7 => ?_) (fun h7 => ?_)
       ·exact IX (IW (fn := Tryz.f61) [.b false, .ret [(false, [tS ((be x0 (⟨#[42, 47]⟩ : ByteArray)).1)]), (false, [tB false])], .ret [(false, [tS ((aC x0 (⟨#[45]⟩ : ByteArray)).1)]), (false, [tS ((aC x0 (⟨#[45]⟩ : ByteArray)).2.1)]), (false, [tB true])], .ret [(false, [tI ((aa ((aC x0 (⟨#[45]⟩ : ByteArray)).1)).1)]), (false, [tB true])], .ret [(false, [tI ((aa ((aC x0 (⟨#[45]⟩ : ByteArray)).2.1)).1)]), (false, [tB true])], .b true, .b true] _ rfl (fun _ => rfl) (fun k => by kernel_rfl) (AC h0 <| AD (I6 (rs' := [(false, [tS ((be x0 (⟨#[42, 47]⟩ : ByteArray)).1)]), (false, [tB false])]) (bd x0 (⟨#[42, 47]⟩ : ByteArray)) (by rw [h1])) <| AD (I6 (rs' := [(false, [tS ((aC x0 (⟨#[45]⟩ : ByteArray)).1)]), (false, [tS ((aC x0 (⟨#[45]⟩ : ByteArray)).2.1)]), (false, [tB true])]) (c8 x0 (⟨#[45]⟩ : ByteArray) h2) (by rw [h3])) <| AD (I6 (rs' := [(false, [tI ((aa ((aC x0 (⟨#[45]⟩ : ByteArray)).1)).1)]), (false, [tB true])]) (a6 ((aC x0 (⟨#[45]⟩ : ByteArray)).1)) (by rw [h4])) <| AD (I6 (rs' := [(false, [tI ((aa ((aC x0 (⟨#[45]⟩ : ByteArray)).2.1)).1)]), (false, [tB true])]) (a6 ((aC x0 (⟨#[45]⟩ : ByteArray)).2.1)) (by rw [h5])) <| AC h6 <| AC h7 <| AN))
       ·exact IX (IW (fn := Tryz.f61) [.b false, .ret [(false, [tS ((be x0 (⟨#[42, 47]⟩ : ByteArray)).1)]), (false, [tB false])], .ret [(false, [tS ((aC x0 (⟨#[45]⟩ : ByteArray)).1)]), (false, [tS ((aC x0 (⟨#[45]⟩ : ByteArray)).2.1)]), (false, [tB true])], .ret [(false, [tI ((aa ((aC x0 (⟨#[45]⟩ : ByteArray)).1)).1)]), (false, [tB true])], .ret [(false, [tI ((aa ((aC x0 (⟨#[45]⟩ : ByteArray)).2.1)).1)]), (false, [tB true])], .b true, .b false] _ rfl (fun _ => rfl) (fun k => by kernel_rfl) (AC h0 <| AD (I6 (rs' := [(false, [tS ((be x0 (⟨#[42, 47]⟩ : ByteArray)).1)]), (false, [tB false])]) (bd x0 (⟨#[42, 47]⟩ : ByteArray)) (by rw [h1])) <| AD (I6 (rs' := [(false, [tS ((aC x0 (⟨#[45]⟩ : ByteArray)).1)]), (false, [tS ((aC x0 (⟨#[45]⟩ : ByteArray)).2.1)]), (false, [tB true])]) (c8 x0 (⟨#[45]⟩ : ByteArray) h2) (by rw [h3])) <| AD (I6 (rs' := [(false, [tI ((aa ((aC x0 (⟨#[45]⟩ : ByteArray)).1)).1)]), (false, [tB true])]) (a6 ((aC x0 (⟨#[45]⟩ : ByteArray)).1)) (by rw [h4])) <| AD (I6 (rs' := [(false, [tI ((aa ((aC x0 (⟨#[45]⟩ : ByteArray)).2.1)).1)]), (false, [tB true])]) (a6 ((aC x0 (⟨#[45]⟩ : ByteArray)).2.1)) (by rw [h5])) <| AC h6 <| AC h7 <| AN))
      ·exact IX (IW (fn := Tryz.f61) [.b false, .ret [(false, [tS ((be x0 (⟨#[42, 47]⟩ : ByteArray)).1)]), (false, [tB false])], .ret [(false, [tS ((aC x0 (⟨#[45]⟩ : ByteArray)).1)]), (false, [tS ((aC x0 (⟨#[45]⟩ : ByteArray)).2.1)]), (false, [tB true])], .ret [(false, [tI ((aa ((aC x0 (⟨#[45]⟩ : ByteArray)).1)).1)]), (false, [tB true])], .ret [(false, [tI ((aa ((aC x0 (⟨#[45]⟩ : ByteArray)).2.1)).1)]), (false, [tB true])], .b false] _ rfl (fun _ => rfl) (fun k => by kernel_rfl) (AC h0 <| AD (I6 (rs' := [(false, [tS ((be x0 (⟨#[42, 47]⟩ : ByteArray)).1)]), (false, [tB false])]) (bd x0 (⟨#[42, 47]⟩ : ByteArray)) (by rw [h1])) <| AD (I6 (rs' := [(false, [tS ((aC x0 (⟨#[45]⟩ : ByteArray)).1)]), (false, [tS ((aC x0 (⟨#[45]⟩ : ByteArray)).2.1)]), (false, [tB true])]) (c8 x0 (⟨#[45]⟩ : ByteArray) h2) (by rw [h3])) <| AD (I6 (rs' := [(false, [tI ((aa ((aC x0 (⟨#[45]⟩ : ByteArray)).1)).1)]), (false, [tB true])]) (a6 ((aC x0 (⟨#[45]⟩ : ByteArray)).1)) (by rw [h4])) <| AD (I6 (rs' := [(false, [tI ((aa ((aC x0 (⟨#[45]⟩ : ByteArray)).2.1)).1)]), (false, [tB true])]) (a6 ((aC x0 (⟨#[45]⟩ : ByteArray)).2.1)) (by rw [h5])) <| AC h6 <| AN))
     ·exact IX (IW (fn := Tryz.f61) [.b false, .ret [(false, [tS ((be x0 (⟨#[42, 47]⟩ : ByteArray)).1)]), (false, [tB false])], .ret [(false, [tS ((aC x0 (⟨#[45]⟩ : ByteArray)).1)]), (false, [tS ((aC x0 (⟨#[45]⟩ : ByteArray)).2.1)]), (false, [tB true])], .ret [(false, [tI ((aa ((aC x0 (⟨#[45]⟩ : ByteArray)).1)).1)]), (false, [tB true])], .ret [(false, [tI ((aa ((aC x0 (⟨#[45]⟩ : ByteArray)).2.1)).1)]), (false, [tB false])]] _ rfl (fun _ => rfl) (fun k => by kernel_rfl) (AC h0 <| AD (I6 (rs' := [(false, [tS ((be x0 (⟨#[42, 47]⟩ : ByteArray)).1)]), (false, [tB false])]) (bd x0 (⟨#[42, 47]⟩ : ByteArray)) (by rw [h1])) <| AD (I6 (rs' := [(false, [tS ((aC x0 (⟨#[45]⟩ : ByteArray)).1)]), (false, [tS ((aC x0 (⟨#[45]⟩ : ByteArray)).2.1)]), (false, [tB true])]) (c8 x0 (⟨#[45]⟩ : ByteArray) h2) (by rw [h3])) <| AD (I6 (rs' := [(false, [tI ((aa ((aC x0 (⟨#[45]⟩ : ByteArray)).1)).1)]), (false, [tB true])]) (a6 ((aC x0 (⟨#[45]⟩ : ByteArray)).1)) (by rw [h4])) <| AD (I6 (rs' := [(false, [tI ((aa ((aC x0 (⟨#[45]⟩ : ByteArray)).2.1)).1)]), (false, [tB false])]) (a6 ((aC x0 (⟨#[45]⟩ : ByteArray)).2.1)) (by rw [h5])) <| AN))
    ·exact IX (IW (fn := Tryz.f61) [.b false, .ret [(false, [tS ((be x0 (⟨#[42, 47]⟩ : ByteArray)).1)]), (false, [tB false])], .ret [(false, [tS ((aC x0 (⟨#[45]⟩ : ByteArray)).1)]), (false, [tS ((aC x0 (⟨#[45]⟩ : ByteArray)).2.1)]), (false, [tB true])], .ret [(false, [tI ((aa ((aC x0 (⟨#[45]⟩ : ByteArray)).1)).1)]), (false, [tB false])], .ret [(false, [tI ((aa ((aC x0 (⟨#[45]⟩ : ByteArray)).2.1)).1)]), (false, [tB ((aa ((aC x0 (⟨#[45]⟩ : ByteArray)).2.1)).2)])]] _ rfl (fun _ => rfl) (fun k => by kernel_rfl) (AC h0 <| AD (I6 (rs' := [(false, [tS ((be x0 (⟨#[42, 47]⟩ : ByteArray)).1)]), (false, [tB false])]) (bd x0 (⟨#[42, 47]⟩ : ByteArray)) (by rw [h1])) <| AD (I6 (rs' := [(false, [tS ((aC x0 (⟨#[45]⟩ : ByteArray)).1)]), (false, [tS ((aC x0 (⟨#[45]⟩ : ByteArray)).2.1)]), (false, [tB true])]) (c8 x0 (⟨#[45]⟩ : ByteArray) h2) (by rw [h3])) <| AD (I6 (rs' := [(false, [tI ((aa ((aC x0 (⟨#[45]⟩ : ByteArray)).1)).1)]), (false, [tB false])]) (a6 ((aC x0 (⟨#[45]⟩ : ByteArray)).1)) (by rw [h4])) <| AD (a6 ((aC x0 (⟨#[45]⟩ : ByteArray)).2.1)) <| AN))
   ·refine I3 (fun h4 => ?_) (fun h4 => ?_)
    ·refine I3 (fun h5 => ?_) (fun h5 => ?_)
     ·refine I3 (fun h6 => ?_) (fun h6 => ?_)
      ·exact IX (IW (fn := Tryz.f61) [.b false, .ret [(false, [tS ((be x0 (⟨#[42, 47]⟩ : ByteArray)).1)]), (false, [tB false])], .ret [(false, [tS ((aC x0 (⟨#[45]⟩ : ByteArray)).1)]), (false, [tS ((aC x0 (⟨#[45]⟩ : ByteArray)).2.1)]), (false, [tB false])], .ret [(false, [tI ((aa ((aC x0 (⟨#[45]⟩ : ByteArray)).1)).1)]), (false, [tB true])], .b true, .b true] _ rfl (fun _ => rfl) (fun k => by kernel_rfl) (AC h0 <| AD (I6 (rs' := [(false, [tS ((be x0 (⟨#[42, 47]⟩ : ByteArray)).1)]), (false, [tB false])]) (bd x0 (⟨#[42, 47]⟩ : ByteArray)) (by rw [h1])) <| AD (I6 (rs' := [(false, [tS ((aC x0 (⟨#[45]⟩ : ByteArray)).1)]), (false, [tS ((aC x0 (⟨#[45]⟩ : ByteArray)).2.1)]), (false, [tB false])]) (c8 x0 (⟨#[45]⟩ : ByteArray) h2) (by rw [h3])) <| AD (I6 (rs' := [(false, [tI ((aa ((aC x0 (⟨#[45]⟩ : ByteArray)).1)).1)]), (false, [tB true])]) (a6 ((aC x0 (⟨#[45]⟩ : ByteArray)).1)) (by rw [h4])) <| AC h5 <| AC h6 <| AN))
      ·exact IX (IW (fn := Tryz.f61) [.b false, .ret [(false, [tS ((be x0 (⟨#[42, 47]⟩ : ByteArray)).1)]), (false, [tB false])], .ret [(false, [tS ((aC x0 (⟨#[45]⟩ : ByteArray)).1)]), (false, [tS ((aC x0 (⟨#[45]⟩ : ByteArray)).2.1)]), (false, [tB false])], .ret [(false, [tI ((aa ((aC x0 (⟨#[45]⟩ : ByteArray)).1)).1)]), (false, [tB true])], .b true, .b false] _ rfl (fun _ => rfl) (fun k => by kernel_rfl) (AC h0 <| AD (I6 (rs' := [(false, [tS ((be x0 (⟨#[42, 47]⟩ : ByteArray)).1)]), (false, [tB false])]) (bd x0 (⟨#[42, 47]⟩ : ByteArray)) (by rw [h1])) <| AD (I6 (rs' := [(false, [tS ((aC x0 (⟨#[45]⟩ : ByteArray)).1)]), (false, [tS ((aC x0 (⟨#[45]⟩ : ByteArray)).2.1)]), (false, [tB false])]) (c8 x0 (⟨#[45]⟩ : ByteArray) h2) (by rw [h3])) <| AD (I6 (rs' := [(false, [tI ((aa ((aC x0 (⟨#[45]⟩ : ByteArray)).1)).1)]), (false, [tB true])]) (a6 ((aC x0 (⟨#[45]⟩ : ByteArray)).1)) (by rw [h4])) <| AC h5 <| AC h6 <| AN))
     ·exact IX (IW (fn := Tryz.f61) [.b false, .ret [(false, [tS ((be x0 (⟨#[42, 47]⟩ : ByteArray)).1)]), (false, [tB false])], .ret [(false, [tS ((aC x0 (⟨#[45]⟩ : ByteArray)).1)]), (false, [tS ((aC x0 (⟨#[45]⟩ : ByteArray)).2.1)]), (false, [tB false])], .ret [(false, [tI ((aa ((aC x0 (⟨#[45]⟩ : ByteArray)).1)).1)]), (false, [tB true])], .b false] _ rfl (fun _ => rfl) (fun k => by kernel_rfl) (AC h0 <| AD (I6 (rs' := [(false, [tS ((be x0 (⟨#[42, 47]⟩ : ByteArray)).1)]), (false, [tB false])]) (bd x0 (⟨#[42, 47]⟩ : ByteArray)) (by rw [h1])) <| AD (I6 (rs' := [(false, [tS ((aC x0 (⟨#[45]⟩ : ByteArray)).1)]), (false, [tS ((aC x0 (⟨#[45]⟩ : ByteArray)).2.1)]), (false, [tB false])]) (c8 x0 (⟨#[45]⟩ : ByteArray) h2) (by rw [h3])) <| AD (I6 (rs' := [(false, [tI ((aa ((aC x0 (⟨#[45]⟩ : ByteArray)).1)).1)]), (false, [tB true])]) (a6 ((aC x0 (⟨#[45]⟩ : ByteArray)).1)) (by rw [h4])) <| AC h5 <| AN))
    ·exact IX (IW (fn := Tryz.f61) [.b false, .ret [(false, [tS ((be x0 (⟨#[42, 47]⟩ : ByteArray)).1)]), (false, [tB false])], .ret [(false, [tS ((aC x0 (⟨#[45]⟩ : ByteArray)).1)]), (false, [tS ((aC x0 (⟨#[45]⟩ : ByteArray)).2.1)]), (false, [tB false])], .ret [(false, [tI ((aa ((aC x0 (⟨#[45]⟩ : ByteArray)).1)).1)]), (false, [tB false])]] _ rfl (fun _ => rfl) (fun k => by kernel_rfl) (AC h0 <| AD (I6 (rs' := [(false, [tS ((be x0 (⟨#[42, 47]⟩ : ByteArray)).1)]), (false, [tB false])]) (bd x0 (⟨#[42, 47]⟩ : ByteArray)) (by rw [h1])) <| AD (I6 (rs' := [(false, [tS ((aC x0 (⟨#[45]⟩ : ByteArray)).1)]), (false, [tS ((aC x0 (⟨#[45]⟩ : ByteArray)).2.1)]), (false, [tB false])]) (c8 x0 (⟨#[45]⟩ : ByteArray) h2) (by rw [h3])) <| AD (I6 (rs' := [(false, [tI ((aa ((aC x0 (⟨#[45]⟩ : ByteArray)).1)).1)]), (false, [tB false])]) (a6 ((aC x0 (⟨#[45]⟩ : ByteArray)).1)) (by rw [h4])) <| AN))
def p8 (r : Int × Int × Int × Bool) (o : Option (Int × Int × Int)) : Prop :=
 match o with | some (a, b, c) => r = (a, b, c, true) | none => r.2.2.2 = false
noncomputable def oy (ps : List (List UInt8)) (lo hi : Int) : Option (Int × Int × Int) :=
 match ps with
 | [p] => if (aa (ofTx p)).2 = true ∧ lo ≤ (aa (ofTx p)).1 ∧ (aa (ofTx p)).1 ≤ hi then some ((aa (ofTx p)).1, (aa (ofTx p)).1, 1) else none
 | [p, q] => if (aa (ofTx p)).2 = true ∧ (aa (ofTx q)).2 = true ∧ lo ≤ (aa (ofTx p)).1 ∧ (aa (ofTx p)).1 ≤ (aa (ofTx q)).1 ∧ (aa (ofTx q)).1 ≤ hi then some ((aa (ofTx p)).1, (aa (ofTx q)).1, 1) else none
 | _ => none
theorem tF (p : List UInt8) (lo hi : Int) : oy [p] lo hi = if (aa (ofTx p)).2 = true ∧ lo ≤ (aa (ofTx p)).1 ∧ (aa (ofTx p)).1 ≤ hi then some ((aa (ofTx p)).1, (aa (ofTx p)).1, 1) else none := rfl
theorem A1 (p q : List UInt8) (lo hi : Int) : oy [p, q] lo hi = if (aa (ofTx p)).2 = true ∧ (aa (ofTx q)).2 = true ∧ lo ≤ (aa (ofTx p)).1 ∧ (aa (ofTx p)).1 ≤ (aa (ofTx q)).1 ∧ (aa (ofTx q)).1 ≤ hi then some ((aa (ofTx p)).1, (aa (ofTx q)).1, 1) else none := rfl
theorem A2 (p q r : List UInt8) (l : List (List UInt8)) (lo hi : Int) : oy (p :: q :: r :: l) lo hi = none := rfl
noncomputable def pg (s : ByteArray) (lo hi : Int) : Option (Int × Int × Int) :=
 if tx s = [42] then some (lo, hi, 1)
 else if [42, 47].isPrefixOf (tx s) = true then
  (if (aa (ofTx ((tx s).drop 2))).2 = true ∧ 1 ≤ (aa (ofTx ((tx s).drop 2))).1 then some (lo, hi, (aa (ofTx ((tx s).drop 2))).1) else none)
 else oy (bo 45 (tx s)) lo hi
noncomputable def bA (s : ByteArray) (lo hi : Int) : Int × Int × Int × Bool := (iH s lo hi).getD (0, 0, 0, false)
noncomputable def bz (s : ByteArray) (lo hi : Int) : Int × Int × Int × Bool := (jt s lo hi).getD (0, 0, 0, false)
theorem A3 {o : Option (Int × Int × Int × Bool)} {p : Option (Int × Int × Int)} {d : Int × Int × Int × Bool} (h : ∃ r, o = some r ∧ p8 r p) : o = some (o.getD d) ∧ p8 (o.getD d) p := by
 obtain ⟨r, rfl, h⟩ := h
 exact ⟨rfl, h⟩
theorem Fm (L : List ByteArray) (ps : List (List UInt8)) (hL : L = ps.map ofTx) (lo hi : Int) (hne : ∃ x xs, ps = x :: xs) :
  ∃ r, ((am L (0 : Int)).bind fun g0 => cond ((aa g0).2)
     (cond ((L.length : Int) == (2 : Int))
      ((am L (1 : Int)).bind fun g1 => cond ((aa g1).2)
       (cond (decide ((L.length : Int) ≤ (2 : Int)))
        (cond (decide (lo ≤ ((aa g0).1)))
         (cond (decide (((aa g0).1) ≤ ((aa g1).1)))
          (some ((aa g0).1, (aa g1).1, (1 : Int), decide (((aa g1).1) ≤ hi)))
          (some ((aa g0).1, (aa g1).1, (1 : Int), false)))
         (some ((aa g0).1, (aa g1).1, (1 : Int), false)))
        (some ((aa g0).1, (aa g1).1, (1 : Int), false)))
       (some ((aa g0).1, (aa g1).1, (1 : Int), false)))
      (cond (decide ((L.length : Int) ≤ (2 : Int)))
       (cond (decide (lo ≤ ((aa g0).1)))
        (cond (decide (((aa g0).1) ≤ ((aa g0).1)))
         (some ((aa g0).1, (aa g0).1, (1 : Int), decide (((aa g0).1) ≤ hi)))
         (some ((aa g0).1, (aa g0).1, (1 : Int), false)))
        (some ((aa g0).1, (aa g0).1, (1 : Int), false)))
       (some ((aa g0).1, (aa g0).1, (1 : Int), false))))
     (cond ((L.length : Int) == (2 : Int))
      ((am L (1 : Int)).bind fun g1 => some ((aa g0).1, (aa g1).1, (1 : Int), false))
      (some ((aa g0).1, (aa g0).1, (1 : Int), false)))) = some r ∧ p8 r (oy ps lo hi) := by
 subst hL
 match ps, hne with
 | [p], _ =>
  have g0 : am ([p].map ofTx) 0 = some (ofTx p) := rfl
  have e1 : ((([p].map ofTx).length : Int) == 2) = false := rfl
  have e2 : decide ((([p].map ofTx).length : Int) ≤ 2) = true := rfl
  rw [g0, e1, e2, tF, Option.bind_some]
  simp only [cond_true, cond_false]
  generalize aa (ofTx p) = a
  obtain ⟨a, b⟩ := a
  cases b with
  | false => exact ⟨_, rfl, by rw [if_neg (by simp)]; exact rfl⟩
  | true =>
   rw [cond_true]
   by_cases h1 : lo ≤ a
   ·rw [decide_eq_true h1, cond_true, decide_eq_true (Int.le_refl _), cond_true]
    refine ⟨_, rfl, ?_⟩
    by_cases h2 : a ≤ hi
    ·rw [decide_eq_true h2, if_pos ⟨rfl, h1, h2⟩]; exact rfl
    ·rw [decide_eq_false h2, if_neg (fun h => h2 h.2.2)]; exact rfl
   ·rw [decide_eq_false h1]
    exact ⟨_, rfl, by rw [if_neg (fun h => h1 h.2.1)]; exact rfl⟩
 | [p, q], _ =>
  have g0 : am ([p, q].map ofTx) 0 = some (ofTx p) := rfl
  have g1 : am ([p, q].map ofTx) 1 = some (ofTx q) := rfl
  have e1 : ((([p, q].map ofTx).length : Int) == 2) = true := rfl
  have e2 : decide ((([p, q].map ofTx).length : Int) ≤ 2) = true := rfl
  rw [g0, g1, e1, e2, A1, Option.bind_some, Option.bind_some]
  simp only [cond_true, cond_false]
  generalize aa (ofTx p) = a
  generalize aa (ofTx q) = c
  obtain ⟨a, b⟩ := a
  obtain ⟨c, d⟩ := c
  cases b with
  | false => exact ⟨_, rfl, by rw [if_neg (by simp)]; exact rfl⟩
  | true =>
   cases d with
   | false => exact ⟨_, rfl, by rw [if_neg (by simp)]; exact rfl⟩
   | true =>
    rw [cond_true, cond_true]
    by_cases h1 : lo ≤ a
    ·rw [decide_eq_true h1, cond_true]
     by_cases h3 : a ≤ c
     ·rw [decide_eq_true h3, cond_true]
      refine ⟨_, rfl, ?_⟩
      by_cases h2 : c ≤ hi
      ·rw [decide_eq_true h2, if_pos ⟨rfl, rfl, h1, h3, h2⟩]; exact rfl
      ·rw [decide_eq_false h2, if_neg (fun h => h2 h.2.2.2.2)]; exact rfl
     ·rw [decide_eq_false h3]
      exact ⟨_, rfl, by rw [if_neg (fun h => h3 h.2.2.2.1)]; exact rfl⟩
    ·rw [decide_eq_false h1]
     exact ⟨_, rfl, by rw [if_neg (fun h => h1 h.2.2.1)]; exact rfl⟩
 | p :: q :: t :: ps, _ =>
  have e1 : ((((p :: q :: t :: ps).map ofTx).length : Int) == 2) = false := by rw [beq_eq_false_iff_ne]; simp; omega
  have e2 : decide ((((p :: q :: t :: ps).map ofTx).length : Int) ≤ 2) = false := decide_eq_false (by simp; omega)
  rw [e1, e2, A2]
  have g0 : am ((p :: q :: t :: ps).map ofTx) 0 = some (ofTx p) := rfl
  rw [g0, Option.bind_some]
  cases (aa (ofTx p)).2 with
  | false => exact ⟨_, rfl, rfl⟩
  | true => exact ⟨_, rfl, rfl⟩
theorem xM (s : ByteArray) (lo hi : Int) (hs : s.size ≤ 2000000) : iH s lo hi = some (bA s lo hi) ∧ p8 (bA s lo hi) (pg s lo hi) := by
 refine A3 ?_
 unfold iH pg
 have e42 : tx (⟨#[42]⟩ : ByteArray) = [42] := rfl
 have e4247 : tx (⟨#[42, 47]⟩ : ByteArray) = [42, 47] := rfl
 rw [mz, e42]
 by_cases h : tx s = [42]
 ·rw [decide_eq_true h, if_pos h]; exact ⟨_, rfl, rfl⟩
 ·have hp : (s.size ≤ 2000000) = True := eq_true hs
  have hc : ((0 : Int) ≤ 45 ∧ (45 : Int) < 256) = True := eq_true (by decide)
  have hL : ab s 45 = (bo 45 (tx s)).map ofTx := rfl
  have tl := Fm (ab s 45) (bo 45 (tx s)) hL lo hi (fa _ _)
  rw [decide_eq_false h, if_neg h, cond_false]
  simp only [hp, hc, if_true]
  have hz := co s
  by_cases h2 : 2 < s.size
  ·rw [decide_eq_true (by omega), cond_true, if_pos (by omega), mz, e4247, vy]
   have hpre : [42, 47].isPrefixOf (tx s) = decide (seg (tx s) (0 : Int).toNat (2 : Int).toNat = [42, 47]) := by
    obtain ⟨a, b, l, e⟩ : ∃ a b l, tx s = a :: b :: l := by
     cases q : tx s with
     | nil => rw [q] at hz; have : s.size = 0 := hz; omega
     | cons a l =>
      cases l with
      | nil => rw [q] at hz; have : s.size = 1 := hz; omega
      | cons b l => exact ⟨a, b, l, rfl⟩
    have : seg (a :: b :: l) (0 : Int).toNat (2 : Int).toNat = [a, b] := by simp [seg]
    have sw : ∀ x y : UInt8, (x == y) = decide (y = x) := fun x y => by
     by_cases h : y = x
     ·subst h; simp
     ·rw [decide_eq_false h, beq_eq_false_iff_ne]; exact fun e => h e.symm
    rw [e, this]
    simp [List.isPrefixOf, sw]
   rw [hpre]
   have hx : s.extract (2 : Int).toNat (s.size : Int).toNat = ofTx ((tx s).drop 2) := by
    rw [jq]
    unfold seg
    rw [List.take_of_length_le (by omega)]; rfl
   by_cases q : seg (tx s) (0 : Int).toNat (2 : Int).toNat = [42, 47]
   ·rw [decide_eq_true q, cond_true, if_pos rfl, if_pos (by omega), hx]
    generalize aa (ofTx ((tx s).drop 2)) = a
    obtain ⟨a, b⟩ := a
    cases b with
    | false => exact ⟨_, rfl, by rw [if_neg (by simp)]; exact rfl⟩
    | true =>
     refine ⟨_, rfl, ?_⟩
     by_cases z : 1 ≤ a
     ·rw [decide_eq_true (show a ≥ 1 from z), if_pos ⟨rfl, z⟩]; exact rfl
     ·rw [decide_eq_false (show ¬ a ≥ 1 from z), if_neg (fun h => z h.2)]; exact rfl
   ·rw [decide_eq_false q, cond_false, if_neg (by simp)]
    exact tl
  ·rw [decide_eq_false (by omega), cond_false]
   by_cases q : [42, 47].isPrefixOf (tx s) = true
   ·rw [if_pos q]
    have e : tx s = [42, 47] := by
     cases w : tx s with
     | nil => rw [w] at q; simp [List.isPrefixOf] at q
     | cons a l =>
      cases l with
      | nil => rw [w] at q; simp [List.isPrefixOf] at q
      | cons b l =>
       cases l with
       | nil => rw [w] at q; simp [List.isPrefixOf] at q; rw [← q.1, ← q.2]
       | cons c l => rw [w] at hz; simp at hz; omega
    have hb : (aa (ofTx ((tx s).drop 2))) = (0, false) := by
     rw [e]
     show aa (ofTx []) = _
     unfold aa
     rw [if_neg (by decide)]
     have : ¬ tx (aI 0) = tx (ofTx []) := by
      unfold aI Lib.itoa
      rw [if_neg (by omega), Lib.decDigits, dif_pos (by simp)]
      simp [tx, ofTx]
     show (if (1000000000 : Int) < 0 then _ else if _ then _ else _) = _
     rw [if_neg (by decide), if_neg this]
    rw [hb, if_neg (by simp)]
    obtain ⟨r, h1, h2⟩ := tl
    refine ⟨r, h1, ?_⟩
    rw [e] at h2
    have hcut : bo 45 ([42, 47] : List UInt8) = [[42, 47]] := nZ (by decide)
    rw [hcut, tF] at h2
    have hb2 : aa (ofTx [42, 47]) = (0, false) := sE (b := 42) (by rw [oJ]; simp) (by decide)
    simp only [hb2] at h2
    rw [if_neg (by simp)] at h2
    exact h2
   ·rw [if_neg q]
    exact tl
theorem xL (s : ByteArray) (lo hi : Int) (hs : s.size ≤ 2000000) : jt s lo hi = some (bz s lo hi) ∧ p8 (bz s lo hi) (pg s lo hi) := by
 refine A3 ?_
 unfold jt pg
 have e42 : tx (⟨#[42]⟩ : ByteArray) = [42] := rfl
 rw [mz, e42]
 by_cases h : tx s = [42]
 ·rw [decide_eq_true h, if_pos h]; exact ⟨_, rfl, rfl⟩
 ·rw [decide_eq_false h, if_neg h, cond_false]
  have hp2 : (be s (⟨#[42, 47]⟩ : ByteArray)).2 = [42, 47].isPrefixOf (tx s) := rfl
  rw [hp2]
  by_cases q : [42, 47].isPrefixOf (tx s) = true
  ·have hp1 : (be s (⟨#[42, 47]⟩ : ByteArray)).1 = ofTx ((tx s).drop 2) := by
    show ofTx (Lib.trimPrefix (tx s) [42, 47]) = _
    unfold Lib.trimPrefix Lib.hasPrefix
    rw [if_pos q]; rfl
   rw [q, cond_true, if_pos rfl, hp1]
   generalize aa (ofTx ((tx s).drop 2)) = a
   obtain ⟨a, b⟩ := a
   cases b with
   | false => exact ⟨_, rfl, by rw [if_neg (by simp)]; exact rfl⟩
   | true =>
    refine ⟨_, rfl, ?_⟩
    by_cases z : 1 ≤ a
    ·rw [decide_eq_true (show a ≥ 1 from z), if_pos ⟨rfl, z⟩]; exact rfl
    ·rw [decide_eq_false (show ¬ a ≥ 1 from z), if_neg (fun h => z h.2)]; exact rfl
  ·rw [if_neg q]
   rw [Bool.not_eq_true] at q
   rw [q, cond_false, if_pos (by omega)]
   rcases zK (tx s) 45 with ⟨h1, h2, h3⟩ | ⟨a, b, h1, h2, h3, h4⟩
   ·have c1 : aC s (⟨#[45]⟩ : ByteArray) = (s, ofTx [], false) := by
     show (ofTx (Lib.cut (tx s) [45]).1, ofTx (Lib.cut (tx s) [45]).2.1, (Lib.cut (tx s) [45]).2.2) = _
     rw [h2]; rfl
    rw [c1, h3, tF]
    simp only [cond_false]
    rw [ow]
    generalize aa s = a
    obtain ⟨a, b⟩ := a
    cases b with
    | false => exact ⟨_, rfl, by rw [if_neg (by simp)]; exact rfl⟩
    | true =>
     rw [cond_true]
     by_cases h1 : lo ≤ a
     ·rw [decide_eq_true (show a ≥ lo from h1), cond_true, decide_eq_true (Int.le_refl _), cond_true]
      refine ⟨_, rfl, ?_⟩
      by_cases h2 : a ≤ hi
      ·rw [decide_eq_true h2, if_pos ⟨rfl, h1, h2⟩]; exact rfl
      ·rw [decide_eq_false h2, if_neg (fun h => h2 h.2.2)]; exact rfl
     ·rw [decide_eq_false (show ¬ a ≥ lo from h1)]
      exact ⟨_, rfl, by rw [if_neg (fun h => h1 h.2.1)]; exact rfl⟩
   ·have c1 : aC s (⟨#[45]⟩ : ByteArray) = (ofTx a, ofTx b, true) := by
     show (ofTx (Lib.cut (tx s) [45]).1, ofTx (Lib.cut (tx s) [45]).2.1, (Lib.cut (tx s) [45]).2.2) = _
     rw [h3]
    rw [c1, h4]
    simp only [cond_true]
    by_cases hb : (45 : UInt8) ∈ b
    ·have hr : aa (ofTx b) = (0, false) := sE (b := 45) (by rw [oJ]; exact hb) (by decide)
     have hm : ∃ x y z, bo 45 b = x :: y :: z := by
      rcases zK b 45 with ⟨g, _⟩ | ⟨c, d, _, _, _, g⟩
      ·exact absurd hb g
      ·obtain ⟨y, z, e⟩ := fa 45 d
       exact ⟨c, y, z, by rw [g, e]⟩
     obtain ⟨x, y, z, e⟩ := hm
     rw [e, hr, A2]
     cases (aa (ofTx a)).2 with
     | false => exact ⟨_, rfl, rfl⟩
     | true => exact ⟨_, rfl, rfl⟩
    ·rw [nZ hb, A1]
     generalize aa (ofTx a) = a
     generalize aa (ofTx b) = c
     obtain ⟨a, b⟩ := a
     obtain ⟨c, d⟩ := c
     cases b with
     | false => exact ⟨_, rfl, by rw [if_neg (by simp)]; exact rfl⟩
     | true =>
      cases d with
      | false => exact ⟨_, rfl, by rw [if_neg (by simp)]; exact rfl⟩
      | true =>
       rw [cond_true, cond_true]
       by_cases h1 : lo ≤ a
       ·rw [decide_eq_true (show a ≥ lo from h1), cond_true]
        by_cases h3 : a ≤ c
        ·rw [decide_eq_true h3, cond_true]
         refine ⟨_, rfl, ?_⟩
         by_cases h2 : c ≤ hi
         ·rw [decide_eq_true h2, if_pos ⟨rfl, rfl, h1, h3, h2⟩]; exact rfl
         ·rw [decide_eq_false h2, if_neg (fun h => h2 h.2.2.2.2)]; exact rfl
        ·rw [decide_eq_false h3]
         exact ⟨_, rfl, by rw [if_neg (fun h => h3 h.2.2.2.1)]; exact rfl⟩
       ·rw [decide_eq_false (show ¬ a ≥ lo from h1)]
        exact ⟨_, rfl, by rw [if_neg (fun h => h1 h.2.2.1)]; exact rfl⟩
theorem Gp {s : ByteArray} {lo hi a b c : Int} (hlo : lo ≤ hi) (h : pg s lo hi = some (a, b, c)) : lo ≤ a ∧ a ≤ b ∧ b ≤ hi ∧ 1 ≤ c ∧ c ≤ 1000000000 := by
 unfold pg at h
 split at h
 ·cases h; exact ⟨Int.le_refl _, hlo, Int.le_refl _, Int.le_refl _, by decide⟩
 ·split at h
  ·split at h
   ·rename_i z
    have := Ec (ofTx ((tx s).drop 2))
    cases h
    exact ⟨Int.le_refl _, hlo, Int.le_refl _, z.2, this.2⟩
   ·cases h
  ·unfold oy at h
   split at h
   ·split at h
    ·rename_i z; cases h; exact ⟨z.2.1, Int.le_refl _, z.2.2, Int.le_refl _, by decide⟩
    ·cases h
   ·split at h
    ·rename_i z; cases h; exact ⟨z.2.2.1, z.2.2.2.1, z.2.2.2.2, Int.le_refl _, by decide⟩
    ·cases h
   ·cases h
theorem qd (x0 : ByteArray) (x1 : Int) (x2 : Int) (h : x0.size ≤ 2000000) : Does E 44 [.one (tS x0), .one (tI x1), .one (tI x2)] [(false, [tI ((bA x0 x1 x2).1)]), (false, [tI ((bA x0 x1 x2).2.1)]), (false, [tI ((bA x0 x1 x2).2.2.1)]), (false, [tB ((bA x0 x1 x2).2.2.2)])] := by
 exact Br x0 x1 x2 _ (xM x0 x1 x2 h).1
theorem rU (x0 : ByteArray) (x1 : Int) (x2 : Int) (h : x0.size ≤ 2000000) : Does E 61 [.one (tS x0), .one (tI x1), .one (tI x2)] [(false, [tI ((bz x0 x1 x2).1)]), (false, [tI ((bz x0 x1 x2).2.1)]), (false, [tI ((bz x0 x1 x2).2.2.1)]), (false, [tB ((bz x0 x1 x2).2.2.2)])] := by
 exact Ck x0 x1 x2 _ (xL x0 x1 x2 h).1
noncomputable def iV (x0 : Int) : Option (Int × Int) :=
  cond (x0 == (0 : Int))
   (some ((0 : Int), (59 : Int)))
   (cond (x0 == (1 : Int))
    (some ((0 : Int), (23 : Int)))
    (cond (x0 == (2 : Int))
     (some ((1 : Int), (31 : Int)))
     (cond (x0 == (3 : Int))
      (some ((1 : Int), (12 : Int)))
      (some ((0 : Int), (6 : Int))))))
theorem DQ (x0 : Int) : Ans (iV x0) (fun r => Does E 60 [.one (tI x0)] [(false, [tI r.1]), (false, [tI r.2])]) := by
 unfold iV
 refine I3 (fun h0 => ?_) (fun h0 => ?_)
 ·exact IX (IW (fn := Tryz.f60) [.b true] _ rfl (fun _ => rfl) (fun k => by kernel_rfl) (AC h0 <| AN))
 ·refine I3 (fun h1 => ?_) (fun h1 => ?_)
  ·exact IX (IW (fn := Tryz.f60) [.b false, .b true] _ rfl (fun _ => rfl) (fun k => by kernel_rfl) (AC h0 <| AC h1 <| AN))
  ·refine I3 (fun h2 => ?_) (fun h2 => ?_)
   ·exact IX (IW (fn := Tryz.f60) [.b false, .b false, .b true] _ rfl (fun _ => rfl) (fun k => by kernel_rfl) (AC h0 <| AC h1 <| AC h2 <| AN))
   ·refine I3 (fun h3 => ?_) (fun h3 => ?_)
    ·exact IX (IW (fn := Tryz.f60) [.b false, .b false, .b false, .b true] _ rfl (fun _ => rfl) (fun k => by kernel_rfl) (AC h0 <| AC h1 <| AC h2 <| AC h3 <| AN))
    ·exact IX (IW (fn := Tryz.f60) [.b false, .b false, .b false, .b false] _ rfl (fun _ => rfl) (fun k => by kernel_rfl) (AC h0 <| AC h1 <| AC h2 <| AC h3 <| AN))
noncomputable def ak (i : Int) : Int × Int := (iV i).getD (0, 0)
theorem Dk (i : Int) : iV i = some (ak i) := by
 refine Tot.getD ?_ _
 unfold iV
 repeat' (first | exact Tot.some _ | apply Tot.cond)
theorem Ew (i : Int) : 0 ≤ (ak i).1 ∧ (ak i).1 ≤ (ak i).2 ∧ (ak i).2 ≤ 59 := by
 unfold ak iV
 cases i == 0 <;> cases i == 1 <;> cases i == 2 <;> cases i == 3 <;> exact ⟨by decide, by decide, by decide⟩
theorem bF (x0 : Int) : Does E 60 [.one (tI x0)] [(false, [tI ((ak x0).1)]), (false, [tI ((ak x0).2)])] := by
 exact DQ x0 _ (Dk x0)
inductive pP where
 | x4 (v16 : List Int)
def fe (v2 : Int) (v8 : List Bool) (v16 : List Int) (v17 : Int) : US := stL 70 [(2, .one (tI v2)), (8, .one (.s .own () 1 (v8.map etB))), (16, .one (.s .own () 1 (v16.map etI))), (17, .one (tI v17))]
def kN (zv16 : List Int) : US := stL 70 [(16, .one (.s .own () 1 (zv16.map etI)))]
abbrev l7 : US → Exit → US → Prop := Round E 26 (aB Tryz.f26 2)
def y7 (v2 : Int) (v8 : List Bool) (v16 : List Int) (v17 : Int) : pP → Prop
 | .x4 zv16 => Loops E 26 (aB Tryz.f26 2) (fe v2 v8 v16 v17) (.exit 4) (kN zv16)
theorem u7 (v2 : Int) (v8 : List Bool) (v16 : List Int) (v17 : Int) (g0 : Bool) (h0 : (decide (v17 ≤ v2)) = true) (h1 : am v8 v17 = some g0) (h2 : g0 = true) (h3 : (v16.length + ([v17]).length) * 8 ≤ 140737488355328 ∧ v16.length + ([v17]).length ≤ 4611686018427387904) : l7 (fe v2 v8 v16 v17) .normal (fe v2 v8 (v16 ++ ([v17])) (inc v17)) :=
 IV [.b true, .row ([tB true]), .rows ((v16 ++ ([v17])).map etI)] _ (fun k => by kernel_rfl) (AC h0 <| AC (p := 0 ≤ v17 ∧ v17 < ((v8.map etB).length : Int)) (aF h1) <| AC (p := (v8.map etB)[0 + v17.toNat]? = some ([tB true])) ((au h1).trans (congrArg some (show [tB g0] = [tB true] by rw [h2]))) <| AC (p := (((([v17]).map etI).drop 0).take (([v17]).map etI).length).all (fun r => r.all T.flat) = true ∧ ((v16.map etI).length + (((([v17]).map etI).drop 0).take (([v17]).map etI).length).length) * 8 ≤ 140737488355328 ∧ (v16.map etI).length + (((([v17]).map etI).drop 0).take (([v17]).map etI).length).length ≤ 4611686018427387904) (by simp only [List.take_length, List.drop_zero]; exact ee (fun x => rfl) h3) <| AC (p := (v16.map etI) ++ (((([v17]).map etI).drop 0).take (([v17]).map etI).length) = (v16 ++ ([v17])).map etI) (by simp only [List.take_length, List.drop_zero]; exact di) <| AN)
theorem u9 (v2 : Int) (v8 : List Bool) (v16 : List Int) (v17 : Int) (g0 : Bool) (h0 : (decide (v17 ≤ v2)) = true) (h1 : am v8 v17 = some g0) (h2 : g0 = false) : l7 (fe v2 v8 v16 v17) .normal (fe v2 v8 v16 (inc v17)) :=
 IV [.b true, .row ([tB false])] _ (fun k => by kernel_rfl) (AC h0 <| AC (p := 0 ≤ v17 ∧ v17 < ((v8.map etB).length : Int)) (aF h1) <| AC (p := (v8.map etB)[0 + v17.toNat]? = some ([tB false])) ((au h1).trans (congrArg some (show [tB g0] = [tB false] by rw [h2]))) <| AN)
theorem vc (v2 : Int) (v8 : List Bool) (v16 : List Int) (v17 : Int) (h0 : (decide (v17 ≤ v2)) = false) : l7 (fe v2 v8 v16 v17) (.exit 4) (kN v16) :=
 IV [.b false] _ (fun k => by kernel_rfl) (AC h0 <| AN)
noncomputable def dH (v2 : Int) (v8 : List Bool) : Nat → (List Int) → Int → Option pP
 | 0, _, _ => none
 | n + 1, v16, v17 => cond (decide (v17 ≤ v2))
  ((am v8 v17).bind fun g0 => cond (g0)
   (if (v16.length + ([v17]).length) * 8 ≤ 140737488355328 ∧ v16.length + ([v17]).length ≤ 4611686018427387904 then dH v2 v8 n (v16 ++ ([v17])) (inc v17) else none)
   (dH v2 v8 n v16 (inc v17)))
  (some (.x4 v16))
theorem y5 (v2 : Int) (v8 : List Bool) (n : Nat) : ∀ (v16 : List Int) (v17 : Int), Ans (dH v2 v8 n v16 v17) (y7 v2 v8 v16 v17) := by
 induction n with
 | zero => intros; exact Ans.none
 | succ n ih =>
  intro v16 v17
  unfold dH
  refine I3 (fun h0 => ?_) (fun h0 => ?_)
  ·refine I4 (fun g0 h1 => ?_)
   refine I3 (fun h2 => ?_) (fun h2 => ?_)
   ·refine I5 (fun h3 => ?_)
    exact (ih (v16 ++ ([v17])) (inc v17)).mono fun y hy => by cases y <;> exact IY (u7 v2 v8 v16 v17 g0 h0 h1 h2 h3) hy
   ·exact (ih v16 (inc v17)).mono fun y hy => by cases y <;> exact IY (u9 v2 v8 v16 v17 g0 h0 h1 h2) hy
  ·exact IX (IZ (vc v2 v8 v16 v17 h0) (by intro h; cases h))
inductive pO where
 | x2 (v8 : List Bool)
def jG (v1 v2 : Int) (v8 : List Bool) (v9 : List ByteArray) (v10 v12 v13 v15 : Int) : US := stL 70 [(1, .one (tI v1)), (2, .one (tI v2)), (8, .one (.s .own () 1 (v8.map etB))), (9, .one (.s .own () 1 (v9.map etS))), (10, .one (tI v10)), (12, .one (tI v12)), (13, .one (tI v13)), (15, .one (tI v15))]
def kM (v1 v2 : Int) (v9 : List ByteArray) (v10 : Int) (zv8 : List Bool) : US := stL 70 [(1, .one (tI v1)), (2, .one (tI v2)), (8, .one (.s .own () 1 (zv8.map etB))), (9, .one (.s .own () 1 (v9.map etS))), (10, .one (tI v10))]
abbrev pL : US → Exit → US → Prop := Round E 26 (aB Tryz.f26 1)
def pM (v1 v2 : Int) (v8 : List Bool) (v9 : List ByteArray) (v10 v12 v13 v15 : Int) : pO → Prop
 | .x2 zv8 => Loops E 26 (aB Tryz.f26 1) (jG v1 v2 v8 v9 v10 v12 v13 v15) (.exit 2) (kM v1 v2 v9 v10 zv8)
theorem u5 (v1 v2 : Int) (v8 : List Bool) (v9 : List ByteArray) (v10 v12 v13 v15 : Int) (g0 : Bool) (h0 : (decide (v15 ≤ v12)) = true) (h1 : am v8 v15 = some g0) : pL (jG v1 v2 v8 v9 v10 v12 v13 v15) .normal (jG v1 v2 (v8.set v15.toNat true) v9 v10 v12 v13 (IntKind.wrap .i64 (v15 + v13))) :=
 IV [.b true, .row (etB g0), .rows ((v8.set v15.toNat true).map etB)] _ (fun k => by kernel_rfl) (AC h0 <| AC (p := 0 ≤ v15 ∧ v15 < ((v8.map etB).length : Int)) (aF h1) <| AC (p := (v8.map etB)[0 + v15.toNat]? = some (etB g0)) (au h1) <| AC (p := (v8.map etB).set (0 + v15.toNat) (ax (etB g0) 0 [tB true]) = (v8.set v15.toNat true).map etB) (fX (by rfl)) <| AN)
theorem u6 (v1 v2 : Int) (v8 : List Bool) (v9 : List ByteArray) (v10 v12 v13 v15 : Int) (h0 : (decide (v15 ≤ v12)) = false) : pL (jG v1 v2 v8 v9 v10 v12 v13 v15) (.exit 2) (kM v1 v2 v9 v10 v8) :=
 IV [.b false] _ (fun k => by kernel_rfl) (AC h0 <| AN)
noncomputable def ff (v12 v13 : Int) : Nat → (List Bool) → Int → Option pO
 | 0, _, _ => none
 | n + 1, v8, v15 => cond (decide (v15 ≤ v12))
  ((am v8 v15).bind fun g0 => ff v12 v13 n (v8.set v15.toNat true) (IntKind.wrap .i64 (v15 + v13)))
  (some (.x2 v8))
theorem y4 (v1 v2 : Int) (v9 : List ByteArray) (v10 v12 v13 : Int) (n : Nat) : ∀ (v8 : List Bool) (v15 : Int), Ans (ff v12 v13 n v8 v15) (pM v1 v2 v8 v9 v10 v12 v13 v15) := by
 induction n with
 | zero => intros; exact Ans.none
 | succ n ih =>
  intro v8 v15
  unfold ff
  refine I3 (fun h0 => ?_) (fun h0 => ?_)
  ·refine I4 (fun g0 h1 => ?_)
   exact (ih (v8.set v15.toNat true) (IntKind.wrap .i64 (v15 + v13))).mono fun y hy => by cases y <;> exact IY (u5 v1 v2 v8 v9 v10 v12 v13 v15 g0 h0 h1) hy
  ·exact IX (IZ (u6 v1 v2 v8 v9 v10 v12 v13 v15 h0) (by intro h; cases h))
inductive pN where
 | ret (v6 : List Int) (v7 : Bool)
 | x0 (v8 : List Bool)
def fd (v1 v2 : Int) (v8 : List Bool) (v9 : List ByteArray) (v10 : Int) : US := stL 70 [(1, .one (tI v1)), (2, .one (tI v2)), (8, .one (.s .own () 1 (v8.map etB))), (9, .one (.s .own () 1 (v9.map etS))), (10, .one (tI v10))]
def jT (zv6 : List Int) (zv7 : Bool) : US := stL 70 [(6, .one (.s .own () 1 (zv6.map etI))), (7, .one (tB zv7))]
def kL (v1 v2 : Int) (zv8 : List Bool) : US := stL 70 [(1, .one (tI v1)), (2, .one (tI v2)), (8, .one (.s .own () 1 (zv8.map etB)))]
abbrev l6 : US → Exit → US → Prop := Round E 26 (aB Tryz.f26 0)
def y6 (v1 v2 : Int) (v8 : List Bool) (v9 : List ByteArray) (v10 : Int) : pN → Prop
 | .ret zv6 zv7 => Loops E 26 (aB Tryz.f26 0) (fd v1 v2 v8 v9 v10) .ret (jT zv6 zv7)
 | .x0 zv8 => Loops E 26 (aB Tryz.f26 0) (fd v1 v2 v8 v9 v10) (.exit 0) (kL v1 v2 zv8)
theorem u2 (v1 v2 : Int) (v8 : List Bool) (v9 : List ByteArray) (v10 : Int) (g0 : ByteArray) (w0_8 : List Bool) (h0 : (decide (v10 < (v9.length : Int))) = true) (h1 : am v9 v10 = some g0) (h2 : g0.size ≤ 2000000) (h3 : ((bA g0 v1 v2).2.2.2) = true) (h4 : pM v1 v2 v8 v9 v10 ((bA g0 v1 v2).2.1) ((bA g0 v1 v2).2.2.1) ((bA g0 v1 v2).1) (.x2 w0_8)) : l6 (fd v1 v2 v8 v9 v10) .normal (fd v1 v2 w0_8 v9 (inc v10)) :=
 IV [.val (.int .i64 (v9.length : Int)), .b true, .row (etS g0), .ret [(false, [tI ((bA g0 v1 v2).1)]), (false, [tI ((bA g0 v1 v2).2.1)]), (false, [tI ((bA g0 v1 v2).2.2.1)]), (false, [tB true])], .lp (.exit 2) (kM v1 v2 v9 v10 w0_8)] _ (fun k => by kernel_rfl) (AC (p := ((v9.map etS).length : Int) = (v9.length : Int)) ag <| AC h0 <| AC (p := 0 ≤ v10 ∧ v10 < ((v9.map etS).length : Int)) (aF h1) <| AC (p := (v9.map etS)[0 + v10.toNat]? = some (etS g0)) (au h1) <| AD (I6 (rs' := [(false, [tI ((bA g0 v1 v2).1)]), (false, [tI ((bA g0 v1 v2).2.1)]), (false, [tI ((bA g0 v1 v2).2.2.1)]), (false, [tB true])]) (qd g0 v1 v2 h2) (by rw [h3])) <| AL h4 <| AN)
theorem u3 (v1 v2 : Int) (v8 : List Bool) (v9 : List ByteArray) (v10 : Int) (g0 : ByteArray) (h0 : (decide (v10 < (v9.length : Int))) = true) (h1 : am v9 v10 = some g0) (h2 : g0.size ≤ 2000000) (h3 : ((bA g0 v1 v2).2.2.2) = false) : l6 (fd v1 v2 v8 v9 v10) .ret (jT ([]) false) :=
 IV [.val (.int .i64 (v9.length : Int)), .b true, .row (etS g0), .ret [(false, [tI ((bA g0 v1 v2).1)]), (false, [tI ((bA g0 v1 v2).2.1)]), (false, [tI ((bA g0 v1 v2).2.2.1)]), (false, [tB false])]] _ (fun k => by kernel_rfl) (AC (p := ((v9.map etS).length : Int) = (v9.length : Int)) ag <| AC h0 <| AC (p := 0 ≤ v10 ∧ v10 < ((v9.map etS).length : Int)) (aF h1) <| AC (p := (v9.map etS)[0 + v10.toNat]? = some (etS g0)) (au h1) <| AD (I6 (rs' := [(false, [tI ((bA g0 v1 v2).1)]), (false, [tI ((bA g0 v1 v2).2.1)]), (false, [tI ((bA g0 v1 v2).2.2.1)]), (false, [tB false])]) (qd g0 v1 v2 h2) (by rw [h3])) <| AN)
theorem u4 (v1 v2 : Int) (v8 : List Bool) (v9 : List ByteArray) (v10 : Int) (h0 : (decide (v10 < (v9.length : Int))) = false) : l6 (fd v1 v2 v8 v9 v10) (.exit 0) (kL v1 v2 v8) :=
 IV [.val (.int .i64 (v9.length : Int)), .b false] _ (fun k => by kernel_rfl) (AC (p := ((v9.map etS).length : Int) = (v9.length : Int)) ag <| AC h0 <| AN)
noncomputable def c9 (v1 v2 : Int) : List ByteArray → Nat → (List Bool) → Option pN
 | [], i, v8 => some (.x0 v8)
 | hd :: rest, i, v8 => if hd.size ≤ 2000000 then cond ((bA hd v1 v2).2.2.2)
  ((ff ((bA hd v1 v2).2.1) ((bA hd v1 v2).2.2.1) 9223372036854775808 v8 ((bA hd v1 v2).1)).bind fun y => match y with
   | .x2 w0_8 => (c9 v1 v2 rest (i + 1) w0_8))
  (some (.ret ([]) false)) else none
theorem y3 (v1 v2 : Int) (v9 : List ByteArray) (rest : List ByteArray) : ∀ (i : Nat) (v8 : List Bool), (v9).drop i = rest → v9.length ≤ 9223372036854775807 → Ans (c9 v1 v2 rest i v8) (y6 v1 v2 v8 v9 (i : Int)) := by
 induction rest with
 | nil =>
  intro i v8 hE hl
  have hb := bH hE
  unfold c9
  exact IX (IZ (u4 v1 v2 v8 v9 (i : Int) hb) (by intro h; cases h))
 | cons hd rest ih =>
  intro i v8 hE hl
  have hb := bh hE
  have hw := bi hE hl
  have hE2 := aK hE
  have hg := bq hE
  unfold c9
  refine I5 (fun h2 => ?_)
  refine I3 (fun h3 => ?_) (fun h3 => ?_)
  ·refine I4 (fun y hy => ?_)
   replace hy := y4 v1 v2 v9 (i : Int) ((bA hd v1 v2).2.1) ((bA hd v1 v2).2.2.1) 9223372036854775808 v8 ((bA hd v1 v2).1) y hy
   cases y with
   | x2 w0_8 =>
    have h4 := hy
    exact (ih (i + 1) w0_8 hE2 hl).mono fun y hy => by have r := u2 v1 v2 v8 v9 (i : Int) hd w0_8 hb hg h2 h3 h4; rw [hw] at r; cases y <;> exact IY r hy
  ·exact IX (IZ (u3 v1 v2 v8 v9 (i : Int) hd hb hg h2 h3) (by intro h; cases h))
noncomputable def eX (x0 : ByteArray) (x1 x2 : Int) : Option ((List Int) × Bool) :=
  if 0 ≤ (inc x2) ∧ (inc x2) ≤ (inc x2) ∧ ((1 : Nat) : Int) * (inc x2) ≤ 281474976710656 ∧ (inc x2) ≤ 4611686018427387904 then if x0.size ≤ 2000000 then if 0 ≤ (44 : Int) ∧ (44 : Int) < 256 then if (ab x0 (44 : Int)).length ≤ 9223372036854775807 then (c9 x1 x2 (ab x0 (44 : Int)) 0 (List.replicate (inc x2).toNat false)).bind fun y => match y with
   | .ret w0_6 w0_7 => (some (w0_6, w0_7))
   | .x0 w0_8 => ((dH x2 w0_8 9223372036854775808 ([]) x1).bind fun y => match y with
    | .x4 w1_16 => (some (w1_16, true))) else none else none else none else none
theorem Bl (x0 : ByteArray) (x1 x2 : Int) : Ans (eX x0 x1 x2) (fun r => Does E 26 [.one (tS x0), .one (tI x1), .one (tI x2)] [(false, [.s .own () 1 (r.1.map etI)]), (false, [tB r.2])]) := by
 unfold eX
 refine I5 (fun h0 => ?_)
 refine I5 (fun h1 => ?_)
 refine I5 (fun h2 => ?_)
 refine I5 (fun hl1 => ?_)
 refine I4 (fun y hy => ?_)
 replace hy := y3 x1 x2 (ab x0 (44 : Int)) (ab x0 (44 : Int)) 0 (List.replicate (inc x2).toNat false) rfl hl1 y hy
 cases y with
 | ret w0_6 w0_7 =>
  have h3 := hy
  exact IX (IW (fn := Tryz.f26) [.rows ((List.replicate (inc x2).toNat false).map etB), .ret [(false, [.s .own () 1 ((ab x0 (44 : Int)).map etS)])], .lp .ret (jT w0_6 w0_7)] _ rfl (fun _ => rfl) (fun k => by kernel_rfl) (AC h0 <| AC (p := List.replicate (inc x2).toNat [tB false] = (List.replicate (inc x2).toNat false).map etB) (oz rfl) <| AD (aN x0 (44 : Int) h1 h2) <| AL h3 <| AN))
 | x0 w0_8 =>
  have h3 := hy
  refine I4 (fun y hy => ?_)
  replace hy := y5 x2 w0_8 9223372036854775808 ([]) x1 y hy
  cases y with
  | x4 w1_16 =>
   have h4 := hy
   exact IX (IW (fn := Tryz.f26) [.rows ((List.replicate (inc x2).toNat false).map etB), .ret [(false, [.s .own () 1 ((ab x0 (44 : Int)).map etS)])], .lp (.exit 0) (kL x1 x2 w0_8), .lp (.exit 4) (kN w1_16)] _ rfl (fun _ => rfl) (fun k => by kernel_rfl) (AC h0 <| AC (p := List.replicate (inc x2).toNat [tB false] = (List.replicate (inc x2).toNat false).map etB) (oz rfl) <| AD (aN x0 (44 : Int) h1 h2) <| AL h3 <| AL h4 <| AN))
inductive nn where
 | x2 (v8 : List Int)
def ib (v6 v7 : Int) (v8 : List Int) (v12 v13 v15 : Int) (v22 : List ByteArray) (v23 v24 : Int) : US := stL 56 [(6, .one (tI v6)), (7, .one (tI v7)), (8, .one (.s .own () 1 (v8.map etI))), (12, .one (tI v12)), (13, .one (tI v13)), (15, .one (tI v15)), (22, .one (.s .own () 1 (v22.map etS))), (23, .one (tI v23)), (24, .one (tI v24))]
def jj (v6 v7 : Int) (v22 : List ByteArray) (v23 v24 : Int) (zv8 : List Int) : US := stL 56 [(6, .one (tI v6)), (7, .one (tI v7)), (8, .one (.s .own () 1 (zv8.map etI))), (22, .one (.s .own () 1 (v22.map etS))), (23, .one (tI v23)), (24, .one (tI v24))]
abbrev nk : US → Exit → US → Prop := Round E 50 (aB Tryz.f50 1)
def nl (v6 v7 : Int) (v8 : List Int) (v12 v13 v15 : Int) (v22 : List ByteArray) (v23 v24 : Int) : nn → Prop
 | .x2 zv8 => Loops E 50 (aB Tryz.f50 1) (ib v6 v7 v8 v12 v13 v15 v22 v23 v24) (.exit 2) (jj v6 v7 v22 v23 v24 zv8)
theorem rR (v6 v7 : Int) (v8 : List Int) (v12 v13 v15 : Int) (v22 : List ByteArray) (v23 v24 : Int) (h0 : (decide (v15 ≤ v12)) = true) (h1 : (v8.length + ([v15]).length) * 8 ≤ 140737488355328 ∧ v8.length + ([v15]).length ≤ 4611686018427387904) : nk (ib v6 v7 v8 v12 v13 v15 v22 v23 v24) .normal (ib v6 v7 (v8 ++ ([v15])) v12 v13 (IntKind.wrap .i64 (v15 + v13)) v22 v23 v24) :=
 IV [.b true, .rows ((v8 ++ ([v15])).map etI)] _ (fun k => by kernel_rfl) (AC h0 <| AC (p := (((([v15]).map etI).drop 0).take (([v15]).map etI).length).all (fun r => r.all T.flat) = true ∧ ((v8.map etI).length + (((([v15]).map etI).drop 0).take (([v15]).map etI).length).length) * 8 ≤ 140737488355328 ∧ (v8.map etI).length + (((([v15]).map etI).drop 0).take (([v15]).map etI).length).length ≤ 4611686018427387904) (by simp only [List.take_length, List.drop_zero]; exact ee (fun x => rfl) h1) <| AC (p := (v8.map etI) ++ (((([v15]).map etI).drop 0).take (([v15]).map etI).length) = (v8 ++ ([v15])).map etI) (by simp only [List.take_length, List.drop_zero]; exact di) <| AN)
theorem rS (v6 v7 : Int) (v8 : List Int) (v12 v13 v15 : Int) (v22 : List ByteArray) (v23 v24 : Int) (h0 : (decide (v15 ≤ v12)) = false) : nk (ib v6 v7 v8 v12 v13 v15 v22 v23 v24) (.exit 2) (jj v6 v7 v22 v23 v24 v8) :=
 IV [.b false] _ (fun k => by kernel_rfl) (AC h0 <| AN)
noncomputable def en (v12 v13 : Int) : Nat → (List Int) → Int → Option nn
 | 0, _, _ => none
 | n + 1, v8, v15 => cond (decide (v15 ≤ v12))
  (if (v8.length + ([v15]).length) * 8 ≤ 140737488355328 ∧ v8.length + ([v15]).length ≤ 4611686018427387904 then en v12 v13 n (v8 ++ ([v15])) (IntKind.wrap .i64 (v15 + v13)) else none)
  (some (.x2 v8))
theorem uL (v6 v7 v12 v13 : Int) (v22 : List ByteArray) (v23 v24 : Int) (n : Nat) : ∀ (v8 : List Int) (v15 : Int), Ans (en v12 v13 n v8 v15) (nl v6 v7 v8 v12 v13 v15 v22 v23 v24) := by
 induction n with
 | zero => intros; exact Ans.none
 | succ n ih =>
  intro v8 v15
  unfold en
  refine I3 (fun h0 => ?_) (fun h0 => ?_)
  ·refine I5 (fun h1 => ?_)
   exact (ih (v8 ++ ([v15])) (IntKind.wrap .i64 (v15 + v13))).mono fun y hy => by cases y <;> exact IY (rR v6 v7 v8 v12 v13 v15 v22 v23 v24 h0 h1) hy
  ·exact IX (IZ (rS v6 v7 v8 v12 v13 v15 v22 v23 v24 h0) (by intro h; cases h))
inductive nm where
 | ret (v4 : List Int) (v5 : Bool)
 | x0 (v8 : List Int)
def em (v6 v7 : Int) (v8 : List Int) (v22 : List ByteArray) (v23 v24 : Int) : US := stL 56 [(6, .one (tI v6)), (7, .one (tI v7)), (8, .one (.s .own () 1 (v8.map etI))), (22, .one (.s .own () 1 (v22.map etS))), (23, .one (tI v23)), (24, .one (tI v24))]
def iA (zv4 : List Int) (zv5 : Bool) : US := stL 56 [(4, .one (.s .own () 1 (zv4.map etI))), (5, .one (tB zv5))]
def ji (zv8 : List Int) : US := stL 56 [(8, .one (.s .own () 1 (zv8.map etI)))]
abbrev kx : US → Exit → US → Prop := Round E 50 (aB Tryz.f50 0)
def uM (v6 v7 : Int) (v8 : List Int) (v22 : List ByteArray) (v23 v24 : Int) : nm → Prop
 | .ret zv4 zv5 => Loops E 50 (aB Tryz.f50 0) (em v6 v7 v8 v22 v23 v24) .ret (iA zv4 zv5)
 | .x0 zv8 => Loops E 50 (aB Tryz.f50 0) (em v6 v7 v8 v22 v23 v24) (.exit 0) (ji zv8)
theorem rO (v6 v7 : Int) (v8 : List Int) (v22 : List ByteArray) (v23 v24 : Int) (g0 : ByteArray) (w0_8 : List Int) (h0 : (decide (v24 < v23)) = true) (h1 : am v22 v24 = some g0) (h2 : g0.size ≤ 2000000) (h3 : ((bz g0 v6 v7).2.2.2) = true) (h4 : nl v6 v7 v8 ((bz g0 v6 v7).2.1) ((bz g0 v6 v7).2.2.1) ((bz g0 v6 v7).1) v22 v23 v24 (.x2 w0_8)) : kx (em v6 v7 v8 v22 v23 v24) .normal (em v6 v7 w0_8 v22 v23 (inc v24)) :=
 IV [.b true, .row (etS g0), .ret [(false, [tI ((bz g0 v6 v7).1)]), (false, [tI ((bz g0 v6 v7).2.1)]), (false, [tI ((bz g0 v6 v7).2.2.1)]), (false, [tB true])], .lp (.exit 2) (jj v6 v7 v22 v23 v24 w0_8)] _ (fun k => by kernel_rfl) (AC h0 <| AC (p := 0 ≤ v24 ∧ v24 < ((v22.map etS).length : Int)) (aF h1) <| AC (p := (v22.map etS)[0 + v24.toNat]? = some (etS g0)) (au h1) <| AD (I6 (rs' := [(false, [tI ((bz g0 v6 v7).1)]), (false, [tI ((bz g0 v6 v7).2.1)]), (false, [tI ((bz g0 v6 v7).2.2.1)]), (false, [tB true])]) (rU g0 v6 v7 h2) (by rw [h3])) <| AL h4 <| AN)
theorem rP (v6 v7 : Int) (v8 : List Int) (v22 : List ByteArray) (v23 v24 : Int) (g0 : ByteArray) (h0 : (decide (v24 < v23)) = true) (h1 : am v22 v24 = some g0) (h2 : g0.size ≤ 2000000) (h3 : ((bz g0 v6 v7).2.2.2) = false) : kx (em v6 v7 v8 v22 v23 v24) .ret (iA ([]) false) :=
 IV [.b true, .row (etS g0), .ret [(false, [tI ((bz g0 v6 v7).1)]), (false, [tI ((bz g0 v6 v7).2.1)]), (false, [tI ((bz g0 v6 v7).2.2.1)]), (false, [tB false])]] _ (fun k => by kernel_rfl) (AC h0 <| AC (p := 0 ≤ v24 ∧ v24 < ((v22.map etS).length : Int)) (aF h1) <| AC (p := (v22.map etS)[0 + v24.toNat]? = some (etS g0)) (au h1) <| AD (I6 (rs' := [(false, [tI ((bz g0 v6 v7).1)]), (false, [tI ((bz g0 v6 v7).2.1)]), (false, [tI ((bz g0 v6 v7).2.2.1)]), (false, [tB false])]) (rU g0 v6 v7 h2) (by rw [h3])) <| AN)
theorem rQ (v6 v7 : Int) (v8 : List Int) (v22 : List ByteArray) (v23 v24 : Int) (h0 : (decide (v24 < v23)) = false) : kx (em v6 v7 v8 v22 v23 v24) (.exit 0) (ji v8) :=
 IV [.b false] _ (fun k => by kernel_rfl) (AC h0 <| AN)
noncomputable def cu (v6 v7 : Int) : List ByteArray → Nat → (List Int) → Option nm
 | [], i, v8 => some (.x0 v8)
 | hd :: rest, i, v8 => if hd.size ≤ 2000000 then cond ((bz hd v6 v7).2.2.2)
  ((en ((bz hd v6 v7).2.1) ((bz hd v6 v7).2.2.1) 9223372036854775808 v8 ((bz hd v6 v7).1)).bind fun y => match y with
   | .x2 w0_8 => (cu v6 v7 rest (i + 1) w0_8))
  (some (.ret ([]) false)) else none
theorem uK (v6 v7 : Int) (v22 : List ByteArray) (rest : List ByteArray) : ∀ (i : Nat) (v8 : List Int), (v22).drop i = rest → v22.length ≤ 9223372036854775807 → Ans (cu v6 v7 rest i v8) (uM v6 v7 v8 v22 (v22.length : Int) (i : Int)) := by
 induction rest with
 | nil =>
  intro i v8 hE hl
  have hb := bH hE
  unfold cu
  exact IX (IZ (rQ v6 v7 v8 v22 (v22.length : Int) (i : Int) hb) (by intro h; cases h))
 | cons hd rest ih =>
  intro i v8 hE hl
  have hb := bh hE
  have hw := bi hE hl
  have hE2 := aK hE
  have hg := bq hE
  unfold cu
  refine I5 (fun h2 => ?_)
  refine I3 (fun h3 => ?_) (fun h3 => ?_)
  ·refine I4 (fun y hy => ?_)
   replace hy := uL v6 v7 ((bz hd v6 v7).2.1) ((bz hd v6 v7).2.2.1) v22 (v22.length : Int) (i : Int) 9223372036854775808 v8 ((bz hd v6 v7).1) y hy
   cases y with
   | x2 w0_8 =>
    have h4 := hy
    exact (ih (i + 1) w0_8 hE2 hl).mono fun y hy => by have r := rO v6 v7 v8 v22 (v22.length : Int) (i : Int) hd w0_8 hb hg h2 h3 h4; rw [hw] at r; cases y <;> exact IY r hy
  ·exact IX (IZ (rP v6 v7 v8 v22 (v22.length : Int) (i : Int) hd hb hg h2 h3) (by intro h; cases h))
noncomputable def eK (x0 : ByteArray) (x1 : Int) : Option ((List Int) × Bool) :=
  if x0.size < 4294967281 then if 1 ≤ (⟨#[44]⟩ : ByteArray).size then if (cd x0 (⟨#[44]⟩ : ByteArray)).length ≤ 9223372036854775807 then (cu ((ak x1).1) ((ak x1).2) (cd x0 (⟨#[44]⟩ : ByteArray)) 0 ([])).bind fun y => match y with
   | .ret w0_4 w0_5 => (some (w0_4, w0_5))
   | .x0 w0_8 => (if w0_8.length < 4611686018427387904 then if (fy w0_8).length ≤ 9223372036854775807 then some (id (fC (fy w0_8)), true) else none else none) else none else none else none
theorem wo (x0 : ByteArray) (x1 : Int) : Ans (eK x0 x1) (fun r => Does E 50 [.one (tS x0), .one (tI x1)] [(false, [.s .own () 1 (r.1.map etI)]), (false, [tB r.2])]) := by
 unfold eK
 refine I5 (fun h0 => ?_)
 refine I5 (fun h1 => ?_)
 refine I5 (fun hl1 => ?_)
 refine I4 (fun y hy => ?_)
 replace hy := uK ((ak x1).1) ((ak x1).2) (cd x0 (⟨#[44]⟩ : ByteArray)) (cd x0 (⟨#[44]⟩ : ByteArray)) 0 ([]) rfl hl1 y hy
 cases y with
 | ret w0_4 w0_5 =>
  have h2 := hy
  exact IX (IW (fn := Tryz.f50) [.ret [(false, [tI ((ak x1).1)]), (false, [tI ((ak x1).2)])], .ret [(false, [.s .own () 1 ((cd x0 (⟨#[44]⟩ : ByteArray)).map etS)])], .val (.int .i64 ((cd x0 (⟨#[44]⟩ : ByteArray)).length : Int)), .lp .ret (iA w0_4 w0_5)] _ rfl (fun _ => rfl) (fun k => by kernel_rfl) (AD (bF x1) <| AD (hU x0 (⟨#[44]⟩ : ByteArray) h0 h1) <| AC (p := (((cd x0 (⟨#[44]⟩ : ByteArray)).map etS).length : Int) = ((cd x0 (⟨#[44]⟩ : ByteArray)).length : Int)) ag <| AL h2 <| AN))
 | x0 w0_8 =>
  have h2 := hy
  refine I5 (fun h3 => ?_)
  refine I5 (fun h4 => ?_)
  exact IX (IW (fn := Tryz.f50) [.ret [(false, [tI ((ak x1).1)]), (false, [tI ((ak x1).2)])], .ret [(false, [.s .own () 1 ((cd x0 (⟨#[44]⟩ : ByteArray)).map etS)])], .val (.int .i64 ((cd x0 (⟨#[44]⟩ : ByteArray)).length : Int)), .lp (.exit 0) (ji w0_8), .ret [(false, [.s .own () 1 ((fy w0_8).map etI)])], .ret [(false, [.any]), (false, [.s .own () 1 ((fC (fy w0_8)).map etI)])], .ret [(false, [.any]), (false, [.s .own () 1 ((id (fC (fy w0_8))).map etI)])]] _ rfl (fun _ => rfl) (fun k => by kernel_rfl) (AD (bF x1) <| AD (hU x0 (⟨#[44]⟩ : ByteArray) h0 h1) <| AC (p := (((cd x0 (⟨#[44]⟩ : ByteArray)).map etS).length : Int) = ((cd x0 (⟨#[44]⟩ : ByteArray)).length : Int)) ag <| AL h2 <| AC (p := (w0_8.map etI).length = (w0_8.map etI).length) rfl <| AV (ψ := fun k => E.C k 62 [.one (.s .own () 1 (w0_8.map etI))] = some [(false, [.s .own () 1 ((fy w0_8).map etI)])]) (rI w0_8 h3) <| AV (ψ := fun k => E.C k 64 [.one (.s .own () 1 ((fy w0_8).map etI))] = some [(false, [.any]), (false, [.s .own () 1 ((fC (fy w0_8)).map etI)])]) (oM (fy w0_8) h4) <| AV (ψ := fun k => E.C k 63 [.one (.s .own () 1 ((fC (fy w0_8)).map etI))] = some [(false, [.any]), (false, [.s .own () 1 ((id (fC (fy w0_8))).map etI)])]) (rH (fC (fy w0_8))) <| AN))
def Marks (lo hi : Int) (has : List Bool) (l : List Int) : Prop :=
 (has.length : Int) = hi + 1 ∧ (∀ x ∈ l, lo ≤ x ∧ x ≤ hi) ∧ ∀ j : Nat, (j : Int) ≤ hi → (has[j]? = some true ↔ (j : Int) ∈ l)
theorem Marks.add {lo hi : Int} {has : List Bool} {l : List Int} (h : Marks lo hi has l) (h0 : 0 ≤ lo) {x : Int} (hx : lo ≤ x ∧ x ≤ hi) : Marks lo hi (has.set x.toNat true) (l ++ [x]) := by
 obtain ⟨h1, h2, h3⟩ := h
 refine ⟨by rw [List.length_set]; exact h1, fun y hy => ?_, fun j hj => ?_⟩
 ·rcases List.mem_append.1 hy with hy | hy
  ·exact h2 y hy
  ·rw [List.mem_singleton] at hy; subst hy; exact hx
 ·rw [List.mem_append, List.mem_singleton, List.getElem?_set]
  by_cases e : x.toNat = j
  ·rw [if_pos e, if_pos (by omega)]
   exact ⟨fun _ => .inr (by omega), fun _ => rfl⟩
  ·rw [if_neg e, h3 j hj]
   exact ⟨.inl, fun h => h.resolve_right (by omega)⟩
theorem Bb (lo hi b st : Int) (h0 : 0 ≤ lo) (hhi : hi ≤ 59) (hb : b ≤ hi) (h1 : 1 ≤ st) (h2 : st ≤ 1000000000) : ∀ (k n : Nat) (a : Int) (has : List Bool) (l : List Int), (b - a + 1).toNat ≤ k → k < n → lo ≤ a → a ≤ 1000000100 → Marks lo hi has l → l.length + k ≤ 1000000000 →
  ∃ has' l', ff b st n has a = some (.x2 has') ∧ en b st n l a = some (.x2 l') ∧ Marks lo hi has' l' ∧ l'.length ≤ l.length + k ∧ (a ≤ b ∨ l ≠ [] → l' ≠ [])
 | k, 0, a, has, l, _, hn, _, _, _, _ => by omega
 | k, n + 1, a, has, l, hk, hn, ha, ha', hM, hl => by
  unfold ff en
  by_cases q : a ≤ b
  ·obtain ⟨g, hg, _⟩ := vS (l := has) (k := a) (by have := hM.1; omega)
   obtain ⟨k, rfl⟩ : ∃ j, k = j + 1 := ⟨k - 1, by omega⟩
   have e : IntKind.wrap .i64 (a + st) = a + st := cU _ (by omega) (by omega)
   obtain ⟨has', l', e1, e2, e3, e4, e5⟩ := Bb lo hi b st h0 hhi hb h1 h2 k n (a + st) (has.set a.toNat true) (l ++ [a]) (by omega) (by omega) (by omega) (by omega) (hM.add h0 (by omega)) (by simp; omega)
   refine ⟨has', l', ?_, ?_, e3, by simp at e4; omega, fun _ => e5 (.inr (by simp))⟩
   ·rw [decide_eq_true q, cond_true, hg, Option.bind_some, e]; exact e1
   ·rw [decide_eq_true q, cond_true, if_pos (by simp; omega), e]; exact e2
  ·rw [decide_eq_false q]
   exact ⟨has, l, rfl, rfl, hM, by omega, fun h => h.resolve_left q⟩
theorem se (lo hi : Int) (h0 : 0 ≤ lo) (hlh : lo ≤ hi) (hhi : hi ≤ 59) : ∀ (ps : List ByteArray) (i : Nat) (has : List Bool) (l : List Int), (∀ p ∈ ps, p.size ≤ 2000000) → Marks lo hi has l → l.length + ps.length * 60 ≤ 1000000000 →
  (c9 lo hi ps i has = some (.ret [] false) ∧ cu lo hi ps i l = some (.ret [] false)) ∨
  ∃ has' l', c9 lo hi ps i has = some (.x0 has') ∧ cu lo hi ps i l = some (.x0 l') ∧ Marks lo hi has' l' ∧ l'.length ≤ l.length + ps.length * 60 ∧ (ps ≠ [] ∨ l ≠ [] → l' ≠ [])
 | [], i, has, l, _, hM, _ => .inr ⟨has, l, rfl, rfl, hM, by simp, fun h => h.resolve_left fun h => h rfl⟩
 | p :: ps, i, has, l, hp, hM, hl => by
  have hq := hp p (by simp)
  obtain ⟨-, r1⟩ := xM p lo hi hq
  obtain ⟨-, r2⟩ := xL p lo hi hq
  unfold c9 cu
  simp only [if_pos hq]
  cases e : pg p lo hi with
  | none =>
   rw [e] at r1 r2
   have r1 : (bA p lo hi).2.2.2 = false := r1
   have r2 : (bz p lo hi).2.2.2 = false := r2
   rw [r1, r2]
   exact .inl ⟨rfl, rfl⟩
  | some x =>
   obtain ⟨a, b, st⟩ := x
   rw [e] at r1 r2
   have r1 : bA p lo hi = (a, b, st, true) := r1
   have r2 : bz p lo hi = (a, b, st, true) := r2
   obtain ⟨a1, a2, a3, a4, a5⟩ := Gp hlh e
   simp only [List.length_cons] at hl
   obtain ⟨has', l', e1, e2, e3, e4, e5⟩ := Bb lo hi b st h0 hhi a3 a4 a5 60 9223372036854775808 a has l (by omega) (by omega) a1 (by omega) hM (by omega)
   rw [r1, r2]
   simp only [cond_true, e1, e2, Option.bind_some]
   rcases se lo hi h0 hlh hhi ps (i + 1) has' l' (fun p hp' => hp p (by simp [hp'])) e3 (by omega) with h | ⟨has2, l2, g1, g2, g3, g4, g5⟩
   ·exact .inl h
   ·exact .inr ⟨has2, l2, g1, g2, g3, by rw [List.length_cons]; omega, fun _ => g5 (.inr (e5 (.inl a2)))⟩
theorem D9 (hi : Int) (has : List Bool) (hh : (has.length : Int) = hi + 1) (hhi : hi ≤ 59) : ∀ (k n : Nat) (x : Int) (v : List Int), (hi - x + 1).toNat ≤ k → k < n → 0 ≤ x → x ≤ 100 → v.length + k ≤ 1000 → v.Pairwise (· < ·) → (∀ y ∈ v, y < x) →
  ∃ w, dH hi has n v x = some (.x4 w) ∧ w.Pairwise (· < ·) ∧ ∀ y, y ∈ w ↔ y ∈ v ∨ (x ≤ y ∧ y ≤ hi ∧ has[y.toNat]? = some true)
 | k, 0, x, v, _, hn, _, _, _, _, _ => by omega
 | k, n + 1, x, v, hk, hn, hx, hx', hl, hp, hm => by
  unfold dH
  by_cases q : x ≤ hi
  ·obtain ⟨g, hg, _⟩ := vS (l := has) (k := x) (by omega)
   have hg' := (qv hg).2
   obtain ⟨k, rfl⟩ : ∃ j, k = j + 1 := ⟨k - 1, by omega⟩
   have e : inc x = x + 1 := mO _ (by omega) (by omega)
   rw [decide_eq_true q, cond_true, hg, Option.bind_some]
   cases g with
   | true =>
    obtain ⟨w, w1, w2, w3⟩ := D9 hi has hh hhi k n (x + 1) (v ++ [x]) (by omega) (by omega) (by omega) (by omega) (by simp; omega)
     (by rw [List.pairwise_append]; exact ⟨hp, by simp, fun a ha b hb => by rw [List.mem_singleton] at hb; subst hb; exact hm a ha⟩)
     (fun y hy => by rcases List.mem_append.1 hy with h | h; have := hm y h; omega; rw [List.mem_singleton] at h; omega)
    refine ⟨w, by rw [cond_true, if_pos (by simp; omega), e]; exact w1, w2, fun y => ?_⟩
    rw [w3, List.mem_append, List.mem_singleton]
    constructor
    ·rintro ((h | rfl) | h)
     ·exact .inl h
     ·exact .inr ⟨Int.le_refl _, q, hg'⟩
     ·exact .inr ⟨by omega, h.2⟩
    ·rintro (h | h)
     ·exact .inl (.inl h)
     ·by_cases z : y = x
      ·exact .inl (.inr z)
      ·exact .inr ⟨by omega, h.2⟩
   | false =>
    obtain ⟨w, w1, w2, w3⟩ := D9 hi has hh hhi k n (x + 1) v (by omega) (by omega) (by omega) (by omega) (by omega) hp (fun y hy => by have := hm y hy; omega)
    refine ⟨w, by rw [cond_false, e]; exact w1, w2, fun y => ?_⟩
    rw [w3]
    constructor
    ·rintro (h | h)
     ·exact .inl h
     ·exact .inr ⟨by omega, h.2⟩
    ·rintro (h | h)
     ·exact .inl h
     ·by_cases z : y = x
      ·subst z; rw [hg'] at h; exact absurd h.2.2 (by simp)
      ·exact .inr ⟨by omega, h.2⟩
  ·rw [decide_eq_false q]
   exact ⟨v, rfl, hp, fun y => ⟨.inl, fun h => h.resolve_right fun h => by omega⟩⟩
theorem tG (lo hi : Int) : ∀ (l : List Int) (a : Int), l.Pairwise (· < ·) → (∀ x ∈ l, a ≤ x ∧ x ≤ hi) → a ≤ hi + 1 → (l.length : Int) ≤ hi + 1 - a
 | [], a, _, _, h => by simp; omega
 | x :: l, a, hp, hm, h => by
  rw [List.pairwise_cons] at hp
  have := hm x (by simp)
  have := tG lo hi l (x + 1) hp.2 (fun y hy => ⟨by have := hp.1 y hy; omega, (hm y (by simp [hy])).2⟩) (by omega)
  simp; omega
noncomputable def ac (s : ByteArray) (lo hi : Int) : List Int × Bool := (eX s lo hi).getD ([], false)
noncomputable def av (s : ByteArray) (i : Int) : List Int × Bool := ac s (ak i).1 (ak i).2
def Eq (lo hi : Int) (r : List Int × Bool) : Prop := (r.2 = false ∧ r.1 = []) ∨ (r.2 = true ∧ r.1.Pairwise (· < ·) ∧ r.1 ≠ [] ∧ (∀ x ∈ r.1, lo ≤ x ∧ x ≤ hi) ∧ r.1.length ≤ 60)
theorem sT (s : ByteArray) (lo hi : Int) (hs : s.size ≤ 2000000) (hb : 0 ≤ lo ∧ lo ≤ hi ∧ hi ≤ 59) : eX s lo hi = some (ac s lo hi) ∧ Eq lo hi (ac s lo hi) ∧ ∀ i, ak i = (lo, hi) → eK s i = some (ac s lo hi) := by
 obtain ⟨h0, hlh, hhi⟩ := hb
 have hinc : inc hi = hi + 1 := mO _ (by omega) (by omega)
 have hl := sR 44 (tx s)
 rw [← co] at hl
 have hL : ab s 44 = (bo 44 (tx s)).map ofTx := rfl
 have hlen : (ab s 44).length ≤ 2000001 := by rw [hL, List.length_map]; omega
 have hpz : ∀ p ∈ ab s 44, p.size ≤ 2000000 := fun p hp => by
  rw [hL] at hp
  obtain ⟨x, hx, rfl⟩ := List.mem_map.1 hp
  have := sS _ _ x hx
  rw [lP]
  rw [← co] at this
  omega
 have hM : Marks lo hi (List.replicate (inc hi).toNat false) [] := by
  refine ⟨by rw [List.length_replicate, hinc]; omega, fun x hx => (by cases hx), fun j hj => ?_⟩
  rw [List.getElem?_replicate, if_pos (by omega)]
  simp
 have hne : ab s 44 ≠ [] := by
  obtain ⟨x, xs, e⟩ := fa 44 (tx s)
  rw [hL, e]; simp
 have hc : ((0 : Int) ≤ 44 ∧ (44 : Int) < 256) = True := eq_true (by decide)
 have pre : (s.size ≤ 2000000) = True := eq_true hs
 have iF : ∀ i, ak i = (lo, hi) → ∀ r, (cu lo hi (ab s 44) 0 []).bind (fun y => match y with
   | .ret w0_4 w0_5 => (some (w0_4, w0_5))
   | .x0 w0_8 => (if w0_8.length < 4611686018427387904 then if (fy w0_8).length ≤ 9223372036854775807 then some (id (fC (fy w0_8)), true) else none else none)) = some r → eK s i = some r := fun i hi r hr => by
  unfold eK
  rw [if_pos (by omega), if_pos (by decide), vr, ← hL, if_pos (by omega), hi]
  exact hr
 have sF : eX s lo hi = (c9 lo hi (ab s 44) 0 (List.replicate (inc hi).toNat false)).bind fun y => match y with
   | .ret w0_6 w0_7 => (some (w0_6, w0_7))
   | .x0 w0_8 => ((dH hi w0_8 9223372036854775808 ([]) lo).bind fun y => match y with
    | .x4 w1_16 => (some (w1_16, true))) := by
  unfold eX
  simp only [hc, pre, if_true]
  rw [if_pos (by omega), if_pos (by omega)]
 rcases se lo hi h0 hlh hhi (ab s 44) 0 _ [] hpz hM (by simp; omega) with ⟨h1, h2⟩ | ⟨has, l, h1, h2, h3, h4, h5⟩
 ·rw [h1] at sF
  have sF' : eX s lo hi = some ([], false) := sF
  have e : ac s lo hi = ([], false) := by unfold ac; rw [sF']; rfl
  rw [e]
  exact ⟨sF', .inl ⟨rfl, rfl⟩, fun i hi => iF i hi _ (by rw [h2]; rfl)⟩
 ·obtain ⟨w, w1, w2, w3⟩ := D9 hi has h3.1 hhi 60 9223372036854775808 lo [] (by omega) (by omega) h0 (by omega) (by simp) (by simp) (fun y hy => by cases hy)
  have hw : ∀ y, y ∈ w ↔ y ∈ l := fun y => by
   rw [w3]
   constructor
   ·rintro (h | ⟨a1, a2, a3⟩)
    ·cases h
    ·have := (h3.2.2 y.toNat (by omega)).1 a3
     rwa [show ((y.toNat : Nat) : Int) = y by omega] at this
   ·intro h
    have b := h3.2.1 y h
    refine .inr ⟨b.1, b.2, (h3.2.2 y.toNat (by omega)).2 ?_⟩
    rwa [show ((y.toNat : Nat) : Int) = y by omega]
  obtain ⟨c1, c2⟩ := BD l
  have e3 : fC (fy l) = w := xV c1 w2 fun y => (c2 y).trans (hw y).symm
  rw [h1, Option.bind_some] at sF
  simp only [w1, Option.bind_some] at sF
  have e : ac s lo hi = (w, true) := by unfold ac; rw [sF]; rfl
  rw [e]
  have wm : ∀ x ∈ w, lo ≤ x ∧ x ≤ hi := fun x hx => h3.2.1 x ((hw x).1 hx)
  have wl := tG lo hi w lo w2 wm (by omega)
  refine ⟨sF, .inr ⟨rfl, w2, fun z => ?_, wm, by show w.length ≤ 60; omega⟩, fun i hi => iF i hi _ ?_⟩
  ·have hln := h5 (.inl hne)
   cases q : l with
   | nil => exact hln q
   | cons x t => have := (hw x).2 (by rw [q]; simp); rw [show w = [] from z] at this; cases this
  ·rw [h2, Option.bind_some]
   simp only
   have sl : (fy l).length = l.length := List.length_mergeSort l
   rw [sl, if_pos (by simp at h4; omega), if_pos (by simp at h4; omega), e3]
   rfl
theorem yO (s : ByteArray) (i : Int) (hs : s.size ≤ 2000000) : eK s i = some (av s i) := (sT s _ _ hs (Ew i)).2.2 i rfl
theorem cW (x0 : ByteArray) (x1 : Int) (x2 : Int) (h : x0.size ≤ 2000000) (hb : 0 ≤ x1 ∧ x1 ≤ x2 ∧ x2 ≤ 59) : Does E 26 [.one (tS x0), .one (tI x1), .one (tI x2)] [(false, [.s .own () 1 (((ac x0 x1 x2).1).map etI)]), (false, [tB ((ac x0 x1 x2).2)])] := by
 exact Bl x0 x1 x2 _ (sT x0 x1 x2 h hb).1
theorem cl (x0 : ByteArray) (x1 : Int) (h : x0.size ≤ 2000000) : Does E 50 [.one (tS x0), .one (tI x1)] [(false, [.s .own () 1 (((av x0 x1).1).map etI)]), (false, [tB ((av x0 x1).2)])] := by
 exact wo x0 x1 _ (yO x0 x1 h)
end Go.Proofs.YtfbhcpmlihdmcaaGreatDoor.Am
