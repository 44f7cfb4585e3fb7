/- Numbers in words. -/
import Derived.Test.YtjfbofdmjihglaaGreatDoorEnv
import Derived.Test.YtjfbofdmjihglaaGreatDoorShelf
namespace Go.Proofs.YtjfbofdmjihglaaGreatDoor.Am
open Go Go.Proofs Classical
set_option maxRecDepth 100000
set_option linter.unusedVariables false
set_option linter.unusedSimpArgs false
structure GCron where
 f0 : List Int
 f1 : List Int
 f2 : List Int
 f3 : List Int
 f4 : List Int
def GCron.t (k : Kd) (x : GCron) : List (T Unit) := [.s k () 1 (x.f0.map etI), .s k () 1 (x.f1.map etI), .s k () 1 (x.f2.map etI), .s k () 1 (x.f3.map etI), .s k () 1 (x.f4.map etI)]
instance : ao GCron := ⟨fun x => ao.sm x.f0 ∧ ao.sm x.f1 ∧ ao.sm x.f2 ∧ ao.sm x.f3 ∧ ao.sm x.f4⟩
instance : Wf GCron := ⟨fun x => Wf.wf x.f0 ∧ Wf.wf x.f1 ∧ Wf.wf x.f2 ∧ Wf.wf x.f3 ∧ Wf.wf x.f4⟩
structure GTask where
 f0 : ByteArray
 f1 : ByteArray
 f2 : Int
 f3 : Bool
 f4 : List ByteArray
def GTask.t (k : Kd) (x : GTask) : List (T Unit) := [tS x.f0, tS x.f1, tI x.f2, tB x.f3, .s k () 1 (x.f4.map etS)]
instance : ao GTask := ⟨fun x => ao.sm x.f0 ∧ ao.sm x.f1 ∧ ao.sm x.f4⟩
instance : Wf GTask := ⟨fun x => Wf.wf x.f0 ∧ Wf.wf x.f1 ∧ Wf.wf x.f4⟩
structure GDag where
 f0 : ByteArray
 f1 : ByteArray
 f2 : Int
 f3 : Int
 f4 : Bool
 f5 : List GTask
def GDag.t (k q : Kd) (x : GDag) : List (T Unit) := [tS x.f0, tS x.f1, tI x.f2, tI x.f3, tB x.f4, .s k () 5 (x.f5.map (GTask.t q))]
instance : ao GDag := ⟨fun x => ao.sm x.f0 ∧ ao.sm x.f1 ∧ ao.sm x.f5⟩
instance : Wf GDag := ⟨fun x => Wf.wf x.f0 ∧ Wf.wf x.f1 ∧ Wf.wf x.f5⟩
structure LDag where
 f0 : ByteArray
 f1 : ByteArray
 f2 : Int
 f3 : Int
 f4 : Bool
 f5 : List GTask
def LDag.t (k q : Kd) (x : LDag) : List (T Unit) := [tS x.f0, tS x.f1, tI x.f2, tI x.f3, tB x.f4, .s k () 5 (x.f5.map (GTask.t q))]
instance : ao LDag := ⟨fun x => ao.sm x.f0 ∧ ao.sm x.f1 ∧ ao.sm x.f5⟩
instance : Wf LDag := ⟨fun x => Wf.wf x.f0 ∧ Wf.wf x.f1 ∧ Wf.wf x.f5⟩
def dr (s sep : ByteArray) : List ByteArray := Lib.splitB sep 0 (Lib.countB s sep) s
def aK (xs : List ByteArray) (sep : ByteArray) : ByteArray := ⟨(Lib.join (xs.map (·.data.toList)) sep.data.toList).toArray⟩
def ak (n : Int) : ByteArray := ⟨(Lib.itoa n).toArray⟩
def aL (s sep : ByteArray) : ByteArray × ByteArray × Bool := (⟨(Lib.cut s.data.toList sep.data.toList).1.toArray⟩, ⟨(Lib.cut s.data.toList sep.data.toList).2.1.toArray⟩, (Lib.cut s.data.toList sep.data.toList).2.2)
def bH (s p : ByteArray) : ByteArray × Bool := (⟨(Lib.trimPrefix s.data.toList p.data.toList).toArray⟩, Lib.hasPrefix s.data.toList p.data.toList)
noncomputable def cq (l : List Int) : List Int := l.mergeSort fun x y => decide (x ≤ y)
noncomputable def gW (l : List Int) : List Int := Lib.compact l
theorem jz (x0 x1 : ByteArray) (h1 : x0.size < 4294967281) (h2 : 1 ≤ x1.size) : Does E 107 [.one (tS x0), .one (tS x1)] [(false, [.s .own () 1 ((dr x0 x1).map etS)])] := by
 refine Does.orc ⟨0, fun k _ => ?_⟩
 have o : ∀ C us, E.orc C 107 us = xP us := fun _ _ => rfl
 refine (o _ _).trans ?_
 show (if _ then _ else _) = _
 rw [if_pos ⟨h1, h2⟩]
 rfl
theorem dO (x0 x1 : ByteArray) (h1 : x0.size < 4294967281) : Does E 128 [.one (tS x0), .one (tS x1)] [(false, [tS (aL x0 x1).1]), (false, [tS (aL x0 x1).2.1]), (false, [tB (aL x0 x1).2.2])] := by
 refine Does.orc ⟨0, fun k _ => ?_⟩
 have o : ∀ C us, E.orc C 128 us = Fd us := fun _ _ => rfl
 refine (o _ _).trans ?_
 show (if _ then _ else _) = _
 rw [if_pos h1]
 rfl
theorem bD (x0 x1 : ByteArray)  : Does E 126 [.one (tS x0), .one (tS x1)] [(false, [tS (bH x0 x1).1]), (false, [tB (bH x0 x1).2])] := by
 refine Does.orc ⟨0, fun k _ => ?_⟩
 have o : ∀ C us, E.orc C 126 us = oQ us := fun _ _ => rfl
 refine (o _ _).trans ?_
 rfl
theorem x7 (x0 : Int) (h : -9223372036854775808 ≤ x0 ∧ x0 ≤ 9223372036854775807) : Does E 60 [.one (tI x0)] [(false, [tS (ak x0)])] := by
 refine Does.orc ⟨0, fun k _ => ?_⟩
 have o : ∀ C us, E.orc C 60 us = AS us := fun _ _ => rfl
 refine (o _ _).trans ?_
 show (if _ then _ else _) = _
 rw [if_pos h]
 rfl
theorem d3 (x0 : List ByteArray) (x1 : ByteArray) (h : x0.length ≤ 140737488355328 ∧ (aK x0 x1).size ≤ 140737488355328) : Does E 61 [.one (.s .far () 1 (x0.map etS)), .one (tS x1)] [(false, [tS (aK x0 x1)])] := by
 refine Does.orc ⟨0, fun k _ => ?_⟩
 have o : ∀ C us, E.orc C 61 us = AT us := fun _ _ => rfl
 refine (o _ _).trans ?_
 show (p8 _).bind _ = _
 rw [xS, Option.bind_some, if_pos ⟨h.1, h.2⟩]
 rfl
theorem kT (x0 : List Int) (h : x0.length < 4611686018427387904) : Does E 53 [.one (.s .own () 1 (x0.map etI))] [(false, [.s .own () 1 ((cq x0).map etI)])] := by
 refine Does.orc ⟨0, fun k _ => ?_⟩
 have o : ∀ C us, E.orc C 53 us = AX us := fun _ _ => rfl
 refine (o _ _).trans ?_
 show (jX _).bind _ = _
 rw [oZ, Option.bind_some, if_pos h]
 rfl
theorem rO (x0 : List Int) (h : x0.length ≤ 9223372036854775807) : Does E 111 [.one (.s .own () 1 (x0.map etI))] [(false, [.any]), (false, [.s .own () 1 ((gW x0).map etI)])] := by
 refine Does.orc ⟨0, fun k _ => ?_⟩
 have o : ∀ C us, E.orc C 111 us = rU us := fun _ _ => rfl
 refine (o _ _).trans ?_
 show (jX _).bind _ = _
 rw [oZ, Option.bind_some, if_pos h]
 rfl
theorem vi (x0 : List Int)  : Does E 110 [.one (.s .own () 1 (x0.map etI))] [(false, [.any]), (false, [.s .own () 1 ((id x0).map etI)])] := by
 refine Does.orc ⟨0, fun k _ => ?_⟩
 have o : ∀ C us, E.orc C 110 us = AO us := fun _ _ => rfl
 refine (o _ _).trans ?_
 show (jX _).bind _ = _
 rw [oZ, Option.bind_some]
 rfl
end Go.Proofs.YtjfbofdmjihglaaGreatDoor.Am
namespace Go.Proofs.YtjfbofdmjihglaaGreatDoor.Am
open Go Go.Proofs Classical
set_option maxRecDepth 100000
set_option linter.unusedVariables false
set_option linter.unusedSimpArgs false
def aH (x a b : Int) : Bool := decide (x ≥ a) && decide (x ≤ b)
theorem DS {α : Type} {l : List α} {k : Int} (h : aH k 0 (IntKind.wrap .i64 ((l.length : Int) - 1)) = true) (hl : l.length ≤ 1050000) : 0 ≤ k ∧ k < (l.length : Int) := by
 unfold aH at h
 rw [cP _ (by omega) (by omega)] at h
 simp only [Bool.and_eq_true, decide_eq_true_eq] at h
 omega
theorem l4 {α : Type} {l : List α} {k : Int} (h : 0 ≤ k ∧ k < (l.length : Int)) : ∃ x, aI l k = some x ∧ x ∈ l := by
 unfold aI
 rw [if_pos h.1, List.getElem?_eq_getElem (by omega)]
 exact ⟨_, rfl, List.getElem_mem _⟩
noncomputable def uT (x0 x1 x2 : Int) : Option (Bool) :=
  cond (decide (x0 ≥ x1))
   (some (decide (x0 ≤ x2)))
   (some (false))
theorem HA (x0 x1 x2 : Int) : Ans (uT x0 x1 x2) (fun r => Does E 39 [.one (tI x0), .one (tI x1), .one (tI x2)] [(false, [tB r])]) := by
 unfold uT
 refine K8 (fun h0 => ?_) (fun h0 => ?_)
 ·exact K5 (K4 (fn := Tryz.f39) [.b true] _ rfl (fun _ => rfl) (fun k => by kernel_rfl) (AC h0 <| AN))
 ·exact K5 (K4 (fn := Tryz.f39) [.b false] _ rfl (fun _ => rfl) (fun k => by kernel_rfl) (AC h0 <| AN))
theorem bq (x0 : Int) (x1 : Int) (x2 : Int) : Does E 39 [.one (tI x0), .one (tI x1), .one (tI x2)] [(false, [tB (aH x0 x1 x2)])] := by
 exact HA x0 x1 x2 _ (by unfold uT aH; cases decide (x0 ≥ x1) <;> rfl)
noncomputable def qM (x0 x1 x2 : Int) : Option (Bool) :=
  cond (decide (x0 ≥ x1))
   (some (decide (x0 ≤ x2)))
   (some (false))
theorem DN (x0 x1 x2 : Int) : Ans (qM x0 x1 x2) (fun r => Does E 46 [.one (tI x0), .one (tI x1), .one (tI x2)] [(false, [tB r])]) := by
 unfold qM
 refine K8 (fun h0 => ?_) (fun h0 => ?_)
 ·exact K5 (K4 (fn := Tryz.f46) [.b true] _ rfl (fun _ => rfl) (fun k => by kernel_rfl) (AC h0 <| AN))
 ·exact K5 (K4 (fn := Tryz.f46) [.b false] _ rfl (fun _ => rfl) (fun k => by kernel_rfl) (AC h0 <| AN))
theorem cM (x0 : Int) (x1 : Int) (x2 : Int) : Does E 46 [.one (tI x0), .one (tI x1), .one (tI x2)] [(false, [tB (aH x0 x1 x2)])] := by
 exact DN x0 x1 x2 _ (by unfold qM aH; cases decide (x0 ≥ x1) <;> rfl)
noncomputable def jg (x0 : Int) : Option (Int) :=
  cond (decide (x0 < (10 : Int)))
   (some (IntKind.wrap .u8 (IntKind.wrap .i64 ((48 : Int) + x0))))
   (some (IntKind.wrap .u8 (IntKind.wrap .i64 ((IntKind.wrap .i64 ((97 : Int) + x0)) - (10 : Int)))))
theorem Ap (x0 : Int) : Ans (jg x0) (fun r => Does E 59 [.one (tI x0)] [(false, [tY r])]) := by
 unfold jg
 refine K8 (fun h0 => ?_) (fun h0 => ?_)
 ·exact K5 (K4 (fn := Tryz.f59) [.b true] _ rfl (fun _ => rfl) (fun k => by kernel_rfl) (AC h0 <| AN))
 ·exact K5 (K4 (fn := Tryz.f59) [.b false] _ rfl (fun _ => rfl) (fun k => by kernel_rfl) (AC h0 <| AN))
theorem IZ {x : Int} (h0 : 0 ≤ x) (h1 : x < 256) : IntKind.wrap .u8 x = x := by
 simp only [IntKind.wrap, IntKind.bits, IntKind.signed]
 simp
 omega
noncomputable def cD (x : Int) : Int := (jg x).getD 0
theorem Bx (d : Nat) (h : d < 10) : cD (d : Int) = 48 + (d : Int) := by
 unfold cD jg
 rw [decide_eq_true (by omega), cond_true, Option.getD_some, cP _ (by omega) (by omega), IZ (by omega) (by omega)]
theorem sV (x0 : Int) : Does E 59 [.one (tI x0)] [(false, [tY (cD x0)])] := by
 exact Ap x0 _ (by unfold cD jg; cases decide (x0 < 10) <;> rfl)
noncomputable def qL (x0 : Int) : Option (ByteArray) :=
  if -9223372036854775808 ≤ x0 ∧ x0 ≤ 9223372036854775807 then some (ak x0) else none
theorem DH (x0 : Int) : Ans (qL x0) (fun r => Does E 35 [.one (tI x0)] [(false, [tS r])]) := by
 unfold qL
 refine La (fun h0 => ?_)
 exact K5 (K4 (fn := Tryz.f35) [.ret [(false, [tS (ak x0)])]] _ rfl (fun _ => rfl) (fun k => by kernel_rfl) (AD (x7 x0 h0) <| AN))
theorem dE (x0 : Int) (h : -9223372036854775808 ≤ x0 ∧ x0 ≤ 9223372036854775807) : Does E 35 [.one (tI x0)] [(false, [tS (ak x0)])] := by
 exact DH x0 _ (by unfold qL; rw [if_pos h])
inductive uN where
 | x0 (v4 : ByteArray)
def iu (v0 : Int) (v3 : Bool) (v4 : ByteArray) : US := stL 30 [(0, .one (tI v0)), (3, .one (tB v3)), (4, .one (tS v4))]
def kH (v3 : Bool) (zv4 : ByteArray) : US := stL 30 [(3, .one (tB v3)), (4, .one (tS zv4))]
abbrev pT : US → Exit → US → Prop := Round E 33 (ax Tryz.f33 0)
def CB (v0 : Int) (v3 : Bool) (v4 : ByteArray) : uN → Prop
 | .x0 zv4 => Loops E 33 (ax Tryz.f33 0) (iu v0 v3 v4) (.exit 0) (kH v3 zv4)
noncomputable def fc  : Nat → Int → Bool → ByteArray → Option uN
 | 0, _, _, _ => none
 | n + 1, v0, v3, v4 => cond (v0 != (0 : Int))
  (cond (decide ((Int.tmod v0 (10 : Int)) < (0 : Int)))
   (if (strOfNums ([cD (IntKind.wrap .i64 (0 - (Int.tmod v0 (10 : Int))))])).size + v4.size ≤ maxStr then fc n (IntKind.wrap .i64 (Int.tdiv v0 (10 : Int))) v3 ((strOfNums ([cD (IntKind.wrap .i64 (0 - (Int.tmod v0 (10 : Int))))])) ++ v4) else none)
   (if (strOfNums ([cD (Int.tmod v0 (10 : Int))])).size + v4.size ≤ maxStr then fc n (IntKind.wrap .i64 (Int.tdiv v0 (10 : Int))) v3 ((strOfNums ([cD (Int.tmod v0 (10 : Int))])) ++ v4) else none))
  (some (.x0 v4))
theorem uM  (n : Nat) : ∀ (v0 : Int) (v3 : Bool) (v4 : ByteArray), Ans (fc n v0 v3 v4) (CB v0 v3 v4) := by
 induction n with
 | zero => intros; exact Ans.none
 | succ n ih =>
  intro v0 v3 v4
  unfold fc
  refine K8 (fun h0 => ?_) (fun h0 => ?_)
  ·refine K8 (fun h1 => ?_) (fun h1 => ?_)
   ·refine La (fun h2 => ?_)
    have r : pT (iu v0 v3 v4) .normal (iu (IntKind.wrap .i64 (Int.tdiv v0 (10 : Int))) v3 ((strOfNums ([cD (IntKind.wrap .i64 (0 - (Int.tmod v0 (10 : Int))))])) ++ v4)) := K3 [.b true, .no, .b true, .ret [(false, [tY (cD (IntKind.wrap .i64 (0 - (Int.tmod v0 (10 : Int)))))])], .val (.string (strOfNums ([cD (IntKind.wrap .i64 (0 - (Int.tmod v0 (10 : Int))))]))), .val (.string ((strOfNums ([cD (IntKind.wrap .i64 (0 - (Int.tmod v0 (10 : Int))))])) ++ v4))] _ (fun k => by kernel_rfl) (AC h0 <| AC h1 <| AD (sV (IntKind.wrap .i64 (0 - (Int.tmod v0 (10 : Int))))) <| AC (p := (c7 (((([cD (IntKind.wrap .i64 (0 - (Int.tmod v0 (10 : Int))))]).map etY).drop 0).take (([cD (IntKind.wrap .i64 (0 - (Int.tmod v0 (10 : Int))))]).map etY).length)).map strOfNums = some (strOfNums ([cD (IntKind.wrap .i64 (0 - (Int.tmod v0 (10 : Int))))]))) (by simp only [List.take_length, List.drop_zero]; exact C3) <| AC (ar (tab := E.tab) (t := 9) h2) <| AN); exact (ih (IntKind.wrap .i64 (Int.tdiv v0 (10 : Int))) v3 ((strOfNums ([cD (IntKind.wrap .i64 (0 - (Int.tmod v0 (10 : Int))))])) ++ v4)).mono fun y hy => by cases y <;> exact K6 r hy
   ·refine La (fun h2 => ?_)
    have r : pT (iu v0 v3 v4) .normal (iu (IntKind.wrap .i64 (Int.tdiv v0 (10 : Int))) v3 ((strOfNums ([cD (Int.tmod v0 (10 : Int))])) ++ v4)) := K3 [.b true, .no, .b false, .ret [(false, [tY (cD (Int.tmod v0 (10 : Int)))])], .val (.string (strOfNums ([cD (Int.tmod v0 (10 : Int))]))), .val (.string ((strOfNums ([cD (Int.tmod v0 (10 : Int))])) ++ v4))] _ (fun k => by kernel_rfl) (AC h0 <| AC h1 <| AD (sV (Int.tmod v0 (10 : Int))) <| AC (p := (c7 (((([cD (Int.tmod v0 (10 : Int))]).map etY).drop 0).take (([cD (Int.tmod v0 (10 : Int))]).map etY).length)).map strOfNums = some (strOfNums ([cD (Int.tmod v0 (10 : Int))]))) (by simp only [List.take_length, List.drop_zero]; exact C3) <| AC (ar (tab := E.tab) (t := 9) h2) <| AN); exact (ih (IntKind.wrap .i64 (Int.tdiv v0 (10 : Int))) v3 ((strOfNums ([cD (Int.tmod v0 (10 : Int))])) ++ v4)).mono fun y hy => by cases y <;> exact K6 r hy
  ·exact K5 (K7 (show pT (iu v0 v3 v4) (.exit 0) (kH v3 v4) from K3 [.b false] _ (fun k => by kernel_rfl) (AC h0 <| AN)) (by intro h; cases h))
noncomputable def nQ (x0 : Int) : Option (ByteArray) :=
  cond (x0 == (0 : Int))
   (some ((⟨#[48]⟩ : ByteArray)))
   (cond (decide (x0 < (0 : Int)))
    ((fc 9223372036854775808 x0 true ByteArray.empty).bind fun y => match y with
     | .x0 w0_4 => (if (⟨#[45]⟩ : ByteArray).size + w0_4.size ≤ maxStr then some ((⟨#[45]⟩ : ByteArray) ++ w0_4) else none))
    ((fc 9223372036854775808 x0 false ByteArray.empty).bind fun y => match y with
     | .x0 w0_4 => (some (w0_4))))
theorem Ec (x0 : Int) : Ans (nQ x0) (fun r => Does E 33 [.one (tI x0)] [(false, [tS r])]) := by
 unfold nQ
 refine K8 (fun h0 => ?_) (fun h0 => ?_)
 ·exact K5 (K4 (fn := Tryz.f33) [.b true] _ rfl (fun _ => rfl) (fun k => by kernel_rfl) (AC h0 <| AN))
 ·refine K8 (fun h1 => ?_) (fun h1 => ?_)
  ·refine K9 (fun y hy => ?_)
   replace hy := uM 9223372036854775808 x0 true ByteArray.empty y hy
   cases y with
   | x0 w0_4 =>
    have h2 := hy
    refine La (fun h3 => ?_)
    exact K5 (K4 (fn := Tryz.f33) [.b false, .b true, .lp (.exit 0) (kH true w0_4), .val (.string ((⟨#[45]⟩ : ByteArray) ++ w0_4))] _ rfl (fun _ => rfl) (fun k => by kernel_rfl) (AC h0 <| AC h1 <| AL h2 <| AC (ar (tab := E.tab) (t := 9) h3) <| AN))
  ·refine K9 (fun y hy => ?_)
   replace hy := uM 9223372036854775808 x0 false ByteArray.empty y hy
   cases y with
   | x0 w0_4 =>
    have h2 := hy
    exact K5 (K4 (fn := Tryz.f33) [.b false, .b false, .lp (.exit 0) (kH false w0_4)] _ rfl (fun _ => rfl) (fun k => by kernel_rfl) (AC h0 <| AC h1 <| AL h2 <| AN))
theorem xD (d : Nat) (h : d < 10) : strOfNums [cD (d : Int)] = ofTx [UInt8.ofNat (48 + d)] := by
 rw [Bx d h]
 unfold strOfNums ofTx
 have : (48 + (d : Int)).toNat = 48 + d := by omega
 simp [this]
def tO (u : Nat) : List UInt8 := if u = 0 then [] else Lib.decDigits u
theorem GA (u : Nat) (h : 0 < u) : tO u = tO (u / 10) ++ [UInt8.ofNat (48 + u % 10)] := by
 unfold tO
 rw [if_neg (by omega), Dp u h]
theorem H4 (u : Nat) (h : u < 10 ^ 19) : (tO u).length ≤ 19 := by
 unfold tO
 split
 ·simp
 ·exact oS 18 u h
theorem zg (b : Bool) : ∀ (n : Nat) (v : Int) (s : List UInt8), -9223372036854775808 ≤ v → v ≤ 9223372036854775807 → v.natAbs < 10 ^ n → s.length + n ≤ 100 → ∀ m, n < m → fc m v b (ofTx s) = some (.x0 (ofTx (tO v.natAbs ++ s)))
 | 0, v, s, _, _, h, _, m, hm => by
  obtain ⟨m, rfl⟩ : ∃ k, m = k + 1 := ⟨m - 1, by omega⟩
  have : v = 0 := by simpa using h
  subst this
  rfl
 | n + 1, v, s, h1, h2, h, hs, m, hm => by
  obtain ⟨m, rfl⟩ : ∃ k, m = k + 1 := ⟨m - 1, by omega⟩
  unfold fc
  by_cases z : v = 0
  ·subst z; rfl
  ·have hz : (v != 0) = true := by simpa using z
   rw [hz, cond_true]
   have hpos : 0 < v.natAbs := by omega
   have hd : v.natAbs % 10 < 10 := Nat.mod_lt _ (by omega)
   have hq : (Int.tdiv v 10).natAbs = v.natAbs / 10 := by rw [Int.natAbs_tdiv]; rfl
   have hw : IntKind.wrap .i64 (Int.tdiv v 10) = Int.tdiv v 10 := cP _ (by omega) (by omega)
   have hm0 : (Int.tmod v 10).natAbs = v.natAbs % 10 := by rw [Int.natAbs_tmod]; rfl
   have ih := zg b n (Int.tdiv v 10) ([UInt8.ofNat (48 + v.natAbs % 10)] ++ s) (by omega) (by omega) (by rw [hq]; rw [Nat.pow_succ] at h; omega) (by simp; omega) m (by omega)
   rw [hq, ← List.append_assoc, ← GA _ hpos] at ih
   have sz : ∀ l : List UInt8, (ofTx l).size = l.length := fun l => bM _
   by_cases c : Int.tmod v 10 < 0
   ·have e : IntKind.wrap .i64 (0 - Int.tmod v 10) = ((v.natAbs % 10 : Nat) : Int) := by rw [cP _ (by omega) (by omega)]; omega
    rw [decide_eq_true c, cond_true, e, xD _ hd, if_pos (by rw [sz, sz]; simp [maxStr]; omega), hw, nm]
    exact ih
   ·have e : Int.tmod v 10 = ((v.natAbs % 10 : Nat) : Int) := by omega
    rw [decide_eq_false c, cond_false, e, xD _ hd, if_pos (by rw [sz, sz]; simp [maxStr]; omega), hw, nm]
    exact ih
theorem Gz (x : Int) (h : -9223372036854775808 ≤ x ∧ x ≤ 9223372036854775807) : nQ x = some (ak x) := by
 unfold nQ ak Lib.itoa
 by_cases z : x = 0
 ·subst z
  show some _ = some _
  rw [if_neg (by omega), Lib.decDigits, dif_pos (by simp)]; rfl
 ·have hz : (x == 0) = false := by simpa using z
  have hb : x.natAbs < 10 ^ 19 := by have : (10 : Nat) ^ 19 = 10000000000000000000 := rfl; omega
  have hl := fun b => zg b 19 x [] h.1 h.2 hb (by simp) 9223372036854775808 (by omega)
  have e0 : ofTx [] = ByteArray.empty := rfl
  rw [e0] at hl
  have dl := H4 _ hb
  rw [hz, cond_false, hl, hl]
  simp only [List.append_nil, Option.bind_some]
  have sz : ∀ l : List UInt8, (ofTx l).size = l.length := fun l => bM _
  have hd : tO x.natAbs = Lib.decDigits x.natAbs := by unfold tO; rw [if_neg (by omega)]
  by_cases c : x < 0
  ·have e1 : (⟨#[45]⟩ : ByteArray) = ofTx [45] := rfl
   rw [decide_eq_true c, cond_true, if_pos c, e1, if_pos (by rw [sz, sz]; simp [maxStr]; omega), nm, hd]
   rfl
  ·have e2 : x.natAbs = x.toNat := by omega
   rw [decide_eq_false c, cond_false, if_neg c, hd, e2]
   rfl
theorem de (x0 : Int) (h : -9223372036854775808 ≤ x0 ∧ x0 ≤ 9223372036854775807) : Does E 33 [.one (tI x0)] [(false, [tS (ak x0)])] := by
 exact Ec x0 _ (Gz x0 h)
inductive uS where
 | ret (v2 : List ByteArray) (v3 : Bool)
 | x0 (v4 : List ByteArray)
def bU (v0 : ByteArray) (v4 : List ByteArray) (v5 v6 : Int) : US := stL 62 [(0, .one (tS v0)), (4, .one (.s .own () 1 (v4.map etS))), (5, .one (tI v5)), (6, .one (tI v6))]
def jG (zv2 : List ByteArray) (zv3 : Bool) : US := stL 62 [(2, .one (.s .own () 1 (zv2.map etS))), (3, .one (tB zv3))]
def kL (zv4 : List ByteArray) : US := stL 62 [(4, .one (.s .own () 1 (zv4.map etS)))]
abbrev fg : US → Exit → US → Prop := Round E 76 (ax Tryz.f76 0)
def CI (v0 : ByteArray) (v4 : List ByteArray) (v5 v6 : Int) : uS → Prop
 | .ret zv2 zv3 => Loops E 76 (ax Tryz.f76 0) (bU v0 v4 v5 v6) .ret (jG zv2 zv3)
 | .x0 zv4 => Loops E 76 (ax Tryz.f76 0) (bU v0 v4 v5 v6) (.exit 0) (kL zv4)
noncomputable def cI (v0 : ByteArray) : Nat → (List ByteArray) → Int → Int → Option uS
 | 0, _, _, _ => none
 | n + 1, v4, v5, v6 => cond (decide (v6 ≤ (v0.size : Int)))
  (cond (decide (v6 < (v0.size : Int)))
   (if 0 ≤ v6 ∧ v6 < (v0.size : Int) then cond (decide ((fI v0 v6) < (32 : Int)))
    (some (.ret ([]) false))
    (cond (decide ((fI v0 v6) > (126 : Int)))
     (some (.ret ([]) false))
     (cond ((fI v0 v6) != (32 : Int))
      (cI v0 n v4 v5 (inc v6))
      (cond (decide (v5 < v6))
       (if 0 ≤ v5 ∧ v5 ≤ v6 ∧ v6 ≤ (v0.size : Int) then if (v4.length + ([v0.extract v5.toNat v6.toNat]).length) * 16 ≤ 140737488355328 ∧ v4.length + ([v0.extract v5.toNat v6.toNat]).length ≤ 4611686018427387904 then cI v0 n (v4 ++ ([v0.extract v5.toNat v6.toNat])) (inc v6) (inc v6) else none else none)
       (cI v0 n v4 (inc v6) (inc v6))))) else none)
   (cond (decide (v5 < v6))
    (if 0 ≤ v5 ∧ v5 ≤ v6 ∧ v6 ≤ (v0.size : Int) then if (v4.length + ([v0.extract v5.toNat v6.toNat]).length) * 16 ≤ 140737488355328 ∧ v4.length + ([v0.extract v5.toNat v6.toNat]).length ≤ 4611686018427387904 then cI v0 n (v4 ++ ([v0.extract v5.toNat v6.toNat])) (inc v6) (inc v6) else none else none)
    (cI v0 n v4 (inc v6) (inc v6))))
  (some (.x0 v4))
theorem CH (v0 : ByteArray) (n : Nat) : ∀ (v4 : List ByteArray) (v5 v6 : Int), Ans (cI v0 n v4 v5 v6) (CI v0 v4 v5 v6) := by
 induction n with
 | zero => intros; exact Ans.none
 | succ n ih =>
  intro v4 v5 v6
  unfold cI
  refine K8 (fun h0 => ?_) (fun h0 => ?_)
  ·refine K8 (fun h1 => ?_) (fun h1 => ?_)
   ·refine La (fun h2 => ?_)
    refine K8 (fun h3 => ?_) (fun h3 => ?_)
    ·exact K5 (K7 (show fg (bU v0 v4 v5 v6) .ret (jG ([]) false) from K3 [.b true, .b true, .b true] _ (fun k => by kernel_rfl) (AC h0 <| AC h1 <| AC h2 <| AC h3 <| AN)) (by intro h; cases h))
    ·refine K8 (fun h4 => ?_) (fun h4 => ?_)
     ·exact K5 (K7 (show fg (bU v0 v4 v5 v6) .ret (jG ([]) false) from K3 [.b true, .b true, .b false, .b true] _ (fun k => by kernel_rfl) (AC h0 <| AC h1 <| AC h2 <| AC h3 <| AC h2 <| AC h4 <| AN)) (by intro h; cases h))
     ·refine K8 (fun h5 => ?_) (fun h5 => ?_)
      ·have r : fg (bU v0 v4 v5 v6) .normal (bU v0 v4 v5 (inc v6)) := K3 [.b true, .b true, .b false, .b false, .b true, .b true] _ (fun k => by kernel_rfl) (AC h0 <| AC h1 <| AC h2 <| AC h3 <| AC h2 <| AC h4 <| AC h1 <| AC h2 <| AC h5 <| AN); exact (ih v4 v5 (inc v6)).mono fun y hy => by cases y <;> exact K6 r hy
      ·refine K8 (fun h6 => ?_) (fun h6 => ?_)
       ·refine La (fun h7 => ?_)
        refine La (fun h8 => ?_)
        have r : fg (bU v0 v4 v5 v6) .normal (bU v0 (v4 ++ ([v0.extract v5.toNat v6.toNat])) (inc v6) (inc v6)) := K3 [.b true, .b true, .b false, .b false, .b true, .b false, .b true, .rows ((v4 ++ ([v0.extract v5.toNat v6.toNat])).map etS)] _ (fun k => by kernel_rfl) (AC h0 <| AC h1 <| AC h2 <| AC h3 <| AC h2 <| AC h4 <| AC h1 <| AC h2 <| AC h5 <| AC h6 <| AC h7 <| AAp etS (fun _ => rfl) h8 <| AN); exact (ih (v4 ++ ([v0.extract v5.toNat v6.toNat])) (inc v6) (inc v6)).mono fun y hy => by cases y <;> exact K6 r hy
       ·have r : fg (bU v0 v4 v5 v6) .normal (bU v0 v4 (inc v6) (inc v6)) := K3 [.b true, .b true, .b false, .b false, .b true, .b false, .b false] _ (fun k => by kernel_rfl) (AC h0 <| AC h1 <| AC h2 <| AC h3 <| AC h2 <| AC h4 <| AC h1 <| AC h2 <| AC h5 <| AC h6 <| AN); exact (ih v4 (inc v6) (inc v6)).mono fun y hy => by cases y <;> exact K6 r hy
   ·refine K8 (fun h2 => ?_) (fun h2 => ?_)
    ·refine La (fun h3 => ?_)
     refine La (fun h4 => ?_)
     have r : fg (bU v0 v4 v5 v6) .normal (bU v0 (v4 ++ ([v0.extract v5.toNat v6.toNat])) (inc v6) (inc v6)) := K3 [.b true, .b false, .b false, .b true, .rows ((v4 ++ ([v0.extract v5.toNat v6.toNat])).map etS)] _ (fun k => by kernel_rfl) (AC h0 <| AC h1 <| AC h1 <| AC h2 <| AC h3 <| AAp etS (fun _ => rfl) h4 <| AN); exact (ih (v4 ++ ([v0.extract v5.toNat v6.toNat])) (inc v6) (inc v6)).mono fun y hy => by cases y <;> exact K6 r hy
    ·have r : fg (bU v0 v4 v5 v6) .normal (bU v0 v4 (inc v6) (inc v6)) := K3 [.b true, .b false, .b false, .b false] _ (fun k => by kernel_rfl) (AC h0 <| AC h1 <| AC h1 <| AC h2 <| AN); exact (ih v4 (inc v6) (inc v6)).mono fun y hy => by cases y <;> exact K6 r hy
  ·exact K5 (K7 (show fg (bU v0 v4 v5 v6) (.exit 0) (kL v4) from K3 [.b false] _ (fun k => by kernel_rfl) (AC h0 <| AN)) (by intro h; cases h))
noncomputable def nS (x0 : ByteArray) : Option ((List ByteArray) × Bool) :=
  cond (decide ((x0.size : Int) > (600 : Int)))
   (some (([] : List ByteArray), false))
   ((cI x0 9223372036854775808 ([]) (0 : Int) (0 : Int)).bind fun y => match y with
    | .ret w0_2 w0_3 => (some (w0_2, w0_3))
    | .x0 w0_4 => (cond (decide ((w0_4.length : Int) > (10 : Int)))
     (some (([] : List ByteArray), false))
     (some (w0_4, true))))
theorem Eh (x0 : ByteArray) : Ans (nS x0) (fun r => Does E 76 [.one (tS x0)] [(false, [.s .own () 1 (r.1.map etS)]), (false, [tB r.2])]) := by
 unfold nS
 refine K8 (fun h0 => ?_) (fun h0 => ?_)
 ·exact K5 (K4 (fn := Tryz.f76) [.b true] _ rfl (fun _ => rfl) (fun k => by kernel_rfl) (AC h0 <| AN))
 ·refine K9 (fun y hy => ?_)
  replace hy := CH x0 9223372036854775808 ([]) (0 : Int) (0 : Int) y hy
  cases y with
  | ret w0_2 w0_3 =>
   have h1 := hy
   exact K5 (K4 (fn := Tryz.f76) [.b false, .lp .ret (jG w0_2 w0_3)] _ rfl (fun _ => rfl) (fun k => by kernel_rfl) (AC h0 <| AL h1 <| AN))
  | x0 w0_4 =>
   have h1 := hy
   refine K8 (fun h2 => ?_) (fun h2 => ?_)
   ·exact K5 (K4 (fn := Tryz.f76) [.b false, .lp (.exit 0) (kL w0_4), .val (.int .i64 (w0_4.length : Int)), .b true] _ rfl (fun _ => rfl) (fun k => by kernel_rfl) (AC h0 <| AL h1 <| ALn w0_4 etS <| AC h2 <| AN))
   ·exact K5 (K4 (fn := Tryz.f76) [.b false, .lp (.exit 0) (kL w0_4), .val (.int .i64 (w0_4.length : Int)), .b false] _ rfl (fun _ => rfl) (fun k => by kernel_rfl) (AC h0 <| AL h1 <| ALn w0_4 etS <| AC h2 <| AN))
inductive uj where
 | x2 (v5 : List ByteArray)
def ij (v5 v28 : List ByteArray) (v29 v30 : Int) : US := stL 45 [(5, .one (.s .own () 1 (v5.map etS))), (28, .one (.s .own () 1 (v28.map etS))), (29, .one (tI v29)), (30, .one (tI v30))]
def kw (zv5 : List ByteArray) : US := stL 45 [(5, .one (.s .own () 1 (zv5.map etS)))]
abbrev pE : US → Exit → US → Prop := Round E 85 (ax Tryz.f85 1)
def BM (v5 v28 : List ByteArray) (v29 v30 : Int) : uj → Prop
 | .x2 zv5 => Loops E 85 (ax Tryz.f85 1) (ij v5 v28 v29 v30) (.exit 2) (kw zv5)
noncomputable def ey  : List ByteArray → Nat → (List ByteArray) → Option uj
 | [], i, v5 => some (.x2 v5)
 | hd :: rest, i, v5 => cond (!(hd.toList == ByteArray.empty.toList))
  (if (v5.length + ([hd]).length) * 16 ≤ 140737488355328 ∧ v5.length + ([hd]).length ≤ 4611686018427387904 then ey rest (i + 1) (v5 ++ ([hd])) else none)
  (ey rest (i + 1) v5)
theorem BK (v28 : List ByteArray) (rest : List ByteArray) : ∀ (i : Nat) (v5 : List ByteArray), (v28).drop i = rest → v28.length ≤ 9223372036854775807 → Ans (ey rest i v5) (BM v5 v28 (v28.length : Int) (i : Int)) := by
 induction rest with
 | nil =>
  intro i v5 hE hl
  have hb := bh hE
  unfold ey
  exact K5 (K7 (show pE (ij v5 v28 (v28.length : Int) (i : Int)) (.exit 2) (kw v5) from K3 [.b false] _ (fun k => by kernel_rfl) (AC hb <| AN)) (by intro h; cases h))
 | cons hd rest ih =>
  intro i v5 hE hl
  have hb := aS hE
  have hw := aT hE hl
  have hE2 := aG hE
  have hg := aX hE
  unfold ey
  refine K8 (fun h2 => ?_) (fun h2 => ?_)
  ·refine La (fun h3 => ?_)
   exact (ih (i + 1) (v5 ++ ([hd])) hE2 hl).mono fun y hy => by have r : pE (ij v5 v28 (v28.length : Int) (i : Int)) .normal (ij (v5 ++ ([hd])) v28 (v28.length : Int) (inc (i : Int))) := K3 [.b true, .row (etS hd), .b true, .rows ((v5 ++ ([hd])).map etS)] _ (fun k => by kernel_rfl) (AC hb <| AG etS hg <| AC h2 <| AAp etS (fun _ => rfl) h3 <| AN); rw [hw] at r; cases y <;> exact K6 r hy
  ·exact (ih (i + 1) v5 hE2 hl).mono fun y hy => by have r : pE (ij v5 v28 (v28.length : Int) (i : Int)) .normal (ij v5 v28 (v28.length : Int) (inc (i : Int))) := K3 [.b true, .row (etS hd), .b false] _ (fun k => by kernel_rfl) (AC hb <| AG etS hg <| AC h2 <| AN); rw [hw] at r; cases y <;> exact K6 r hy
inductive ui where
 | ret (v2 : List ByteArray) (v3 : Bool)
 | x0 
def gf (v0 : ByteArray) (v4 : Int) : US := stL 45 [(0, .one (tS v0)), (4, .one (tI v4))]
def jB (zv2 : List ByteArray) (zv3 : Bool) : US := stL 45 [(2, .one (.s .own () 1 (zv2.map etS))), (3, .one (tB zv3))]
def kv (v0 : ByteArray) : US := stL 45 [(0, .one (tS v0))]
abbrev mw : US → Exit → US → Prop := Round E 85 (ax Tryz.f85 0)
def BL (v0 : ByteArray) (v4 : Int) : ui → Prop
 | .ret zv2 zv3 => Loops E 85 (ax Tryz.f85 0) (gf v0 v4) .ret (jB zv2 zv3)
 | .x0 => Loops E 85 (ax Tryz.f85 0) (gf v0 v4) (.exit 0) (kv v0)
noncomputable def gi  : List Int → Nat → Option ui
 | [], i => some (.x0)
 | hd :: rest, i => cond (decide (hd < (32 : Int)))
  (some (.ret ([]) false))
  (cond (decide (hd > (126 : Int)))
   (some (.ret ([]) false))
   (gi rest (i + 1)))
theorem BJ (v0 : ByteArray) (rest : List Int) : ∀ (i : Nat) , (bN v0).drop i = rest → v0.size ≤ 9223372036854775807 → Ans (gi rest i) (BL v0 (i : Int)) := by
 induction rest with
 | nil =>
  intro i hE hl
  have hb := pB hE
  unfold gi
  exact K5 (K7 (show mw (gf v0 (i : Int)) (.exit 0) (kv v0) from K3 [.b false] _ (fun k => by kernel_rfl) (AC hb <| AN)) (by intro h; cases h))
 | cons hd rest ih =>
  intro i hE hl
  have hb := oe hE
  have hw := of hE hl
  have hE2 := aG hE
  have hp := rl hE
  obtain rfl := rk hE
  unfold gi
  refine K8 (fun h2 => ?_) (fun h2 => ?_)
  ·exact K5 (K7 (show mw (gf v0 (i : Int)) .ret (jB ([]) false) from K3 [.b true, .b true] _ (fun k => by kernel_rfl) (AC hb <| AC hp <| AC h2 <| AN)) (by intro h; cases h))
  ·refine K8 (fun h3 => ?_) (fun h3 => ?_)
   ·exact K5 (K7 (show mw (gf v0 (i : Int)) .ret (jB ([]) false) from K3 [.b true, .b false, .b true] _ (fun k => by kernel_rfl) (AC hb <| AC hp <| AC h2 <| AC hp <| AC h3 <| AN)) (by intro h; cases h))
   ·exact (ih (i + 1) hE2 hl).mono fun y hy => by have r : mw (gf v0 (i : Int)) .normal (gf v0 (inc (i : Int))) := K3 [.b true, .b false, .b false] _ (fun k => by kernel_rfl) (AC hb <| AC hp <| AC h2 <| AC hp <| AC h3 <| AN); rw [hw] at r; cases y <;> exact K6 r hy
noncomputable def nK (x0 : ByteArray) : Option ((List ByteArray) × Bool) :=
  cond (decide ((x0.size : Int) > (600 : Int)))
   (some (([] : List ByteArray), false))
   (if x0.size ≤ 9223372036854775807 then (gi (bN x0) 0).bind fun y => match y with
    | .ret w0_2 w0_3 => (some (w0_2, w0_3))
    | .x0 => (if x0.size < 4294967281 then if 1 ≤ (⟨#[32]⟩ : ByteArray).size then if (dr x0 (⟨#[32]⟩ : ByteArray)).length ≤ 9223372036854775807 then (ey (dr x0 (⟨#[32]⟩ : ByteArray)) 0 ([])).bind fun y => match y with
     | .x2 w1_5 => (cond (decide ((w1_5.length : Int) > (10 : Int)))
      (some (([] : List ByteArray), false))
      (some (w1_5, true))) else none else none else none) else none)
theorem DM (x0 : ByteArray) : Ans (nK x0) (fun r => Does E 85 [.one (tS x0)] [(false, [.s .own () 1 (r.1.map etS)]), (false, [tB r.2])]) := by
 unfold nK
 refine K8 (fun h0 => ?_) (fun h0 => ?_)
 ·exact K5 (K4 (fn := Tryz.f85) [.b true] _ rfl (fun _ => rfl) (fun k => by kernel_rfl) (AC h0 <| AN))
 ·refine La (fun hl2 => ?_)
  refine K9 (fun y hy => ?_)
  replace hy := BJ x0 (bN x0) 0 rfl hl2 y hy
  cases y with
  | ret w0_2 w0_3 =>
   have h1 := hy
   exact K5 (K4 (fn := Tryz.f85) [.b false, .lp .ret (jB w0_2 w0_3)] _ rfl (fun _ => rfl) (fun k => by kernel_rfl) (AC h0 <| AL h1 <| AN))
  | x0 =>
   have h1 := hy
   refine La (fun h2 => ?_)
   refine La (fun h3 => ?_)
   refine La (fun hl3 => ?_)
   refine K9 (fun y hy => ?_)
   replace hy := BK (dr x0 (⟨#[32]⟩ : ByteArray)) (dr x0 (⟨#[32]⟩ : ByteArray)) 0 ([]) rfl hl3 y hy
   cases y with
   | x2 w1_5 =>
    have h4 := hy
    refine K8 (fun h5 => ?_) (fun h5 => ?_)
    ·exact K5 (K4 (fn := Tryz.f85) [.b false, .lp (.exit 0) (kv x0), .ret [(false, [.s .own () 1 ((dr x0 (⟨#[32]⟩ : ByteArray)).map etS)])], .val (.int .i64 ((dr x0 (⟨#[32]⟩ : ByteArray)).length : Int)), .lp (.exit 2) (kw w1_5), .val (.int .i64 (w1_5.length : Int)), .b true] _ rfl (fun _ => rfl) (fun k => by kernel_rfl) (AC h0 <| AL h1 <| AD (jz x0 (⟨#[32]⟩ : ByteArray) h2 h3) <| ALn (dr x0 (⟨#[32]⟩ : ByteArray)) etS <| AL h4 <| ALn w1_5 etS <| AC h5 <| AN))
    ·exact K5 (K4 (fn := Tryz.f85) [.b false, .lp (.exit 0) (kv x0), .ret [(false, [.s .own () 1 ((dr x0 (⟨#[32]⟩ : ByteArray)).map etS)])], .val (.int .i64 ((dr x0 (⟨#[32]⟩ : ByteArray)).length : Int)), .lp (.exit 2) (kw w1_5), .val (.int .i64 (w1_5.length : Int)), .b false] _ rfl (fun _ => rfl) (fun k => by kernel_rfl) (AC h0 <| AL h1 <| AD (jz x0 (⟨#[32]⟩ : ByteArray) h2 h3) <| ALn (dr x0 (⟨#[32]⟩ : ByteArray)) etS <| AL h4 <| ALn w1_5 etS <| AC h5 <| AN))
def okB (b : UInt8) : Bool := decide (32 ≤ b.toNat) && decide (b.toNat ≤ 126)
theorem Hk {b : UInt8} (h : b.toNat < 32) : okB b = false := by unfold okB; rw [decide_eq_false (by omega)]; rfl
theorem Hi {b : UInt8} (h : 126 < b.toNat) : okB b = false := by unfold okB; rw [decide_eq_false (by omega : ¬ b.toNat ≤ 126), Bool.and_false]
theorem Hj {b : UInt8} (h : ¬ b.toNat < 32) (h2 : ¬ 126 < b.toNat) : okB b = true := by unfold okB; rw [decide_eq_true (by omega), decide_eq_true (by omega)]; rfl
def aU (x : ByteArray) : Bool := !(x.toList == ByteArray.empty.toList)
noncomputable def aN (s : ByteArray) : List ByteArray × Bool :=
 if 600 < s.size then ([], false) else if (tx s).all okB = true then (if 10 < (((bK 32 (tx s)).map ofTx).filter aU).length then ([], false) else (((bK 32 (tx s)).map ofTx).filter aU, true)) else ([], false)
theorem Bz (l : List UInt8) : aU (ofTx l) = !l.isEmpty := by
 unfold aU
 rw [ja]
 have : tx ByteArray.empty = [] := rfl
 rw [this, jx]
 cases l <;> rfl
theorem xO (s : ByteArray) (c : UInt8) : dr s ⟨#[c]⟩ = (bK c (tx s)).map ofTx := Eq s c
theorem pf (s : ByteArray) : bN s = (tx s).map fun b => (b.toNat : Int) := rfl
theorem Bc {s : ByteArray} {i : Nat} {b : UInt8} (h : (tx s)[i]? = some b) : fI s (i : Int) = (b.toNat : Int) := by
 have hi : i < s.size := by
  rw [bM]
  rcases Nat.lt_or_ge i (tx s).length with g | g
  ·exact g
  ·rw [List.getElem?_eq_none g] at h; cases h
 have := qY s i hi
 rw [pf, List.getElem?_map, h] at this
 exact (Option.some.inj this).symm
theorem Ho : ∀ (l : List UInt8) (i : Nat), gi (l.map fun b => (b.toNat : Int)) i = some (if l.all okB = true then .x0 else .ret [] false)
 | [], i => rfl
 | b :: l, i => by
  rw [List.map_cons]
  unfold gi
  rw [Ho l (i + 1), List.all_cons]
  by_cases h : b.toNat < 32
  ·rw [decide_eq_true (by omega), Hk h]; rfl
  ·rw [decide_eq_false (by omega), cond_false]
   by_cases h' : 126 < b.toNat
   ·rw [decide_eq_true (by omega), Hi h']; rfl
   ·rw [decide_eq_false (by omega), Hj h h']; rfl
theorem Cm : ∀ (l : List ByteArray) (i : Nat) (v : List ByteArray), v.length + l.length ≤ 4000000 → ey l i v = some (.x2 (v ++ l.filter aU))
 | [], i, v, _ => by unfold ey; simp
 | x :: l, i, v, h => by
  simp only [List.length_cons] at h
  unfold ey
  have e : (!(x.toList == ByteArray.empty.toList)) = aU x := rfl
  rw [e]
  cases q : aU x with
  | true =>
   rw [cond_true, if_pos (by simp; omega), Cm l (i + 1) _ (by simp; omega), List.filter_cons, q]; simp
  | false =>
   rw [cond_false, Cm l (i + 1) v (by omega), List.filter_cons, q]; simp
theorem Hp (s : ByteArray) : nK s = some (aN s) := by
 unfold nK aN
 by_cases h : 600 < s.size
 ·rw [decide_eq_true (by omega), if_pos h]; rfl
 ·have hl := wc 32 (tx s)
  rw [← bM] at hl
  rw [decide_eq_false (by omega), if_neg h, cond_false, if_pos (by omega), pf, Ho]
  by_cases q : (tx s).all okB = true
  ·rw [if_pos q, if_pos q, Option.bind_some]
   simp only
   rw [if_pos (by omega), if_pos (by decide), xO, if_pos (by simp; omega), Cm _ _ _ (by simp; omega), Option.bind_some]
   simp only [List.nil_append]
   by_cases r : 10 < (((bK 32 (tx s)).map ofTx).filter aU).length
   ·rw [decide_eq_true (by omega), if_pos r]; rfl
   ·rw [decide_eq_false (by omega), if_neg r]; rfl
  ·rw [if_neg q, if_neg q]; rfl
theorem BA {l : List UInt8} {i : Nat} (h : i < l.length) : ∃ b r, l.drop i = b :: r ∧ l[i]? = some b ∧ l.drop (i + 1) = r := by
 refine ⟨l[i], l.drop (i + 1), List.drop_eq_getElem_cons h, List.getElem?_eq_getElem h, rfl⟩
theorem Hr (s : ByteArray) (hs : s.size ≤ 2000000) : ∀ (m i a : Nat) (v : List ByteArray) (n : Nat), i + m = (tx s).length → m + 1 < n → a ≤ i → v.length + m ≤ 2000000 →
  cI s n v (a : Int) (i : Int) = some (if ((tx s).drop i).all okB = true then .x0 (v ++ ((gr (seg (tx s) a i) (bK 32 ((tx s).drop i))).map ofTx).filter aU) else .ret [] false)
 | m, i, a, v, n, hi, hn, ha, hv => by
  obtain ⟨n, rfl⟩ : ∃ k, n = k + 2 := ⟨n - 2, by omega⟩
  have hsz := bM s
  unfold cI
  rw [decide_eq_true (by omega : (i : Int) ≤ (s.size : Int)), cond_true]
  have hinc : inc (i : Int) = ((i + 1 : Nat) : Int) := by rw [il _ (by omega) (by omega)]; omega
  cases m with
  | zero =>
   have hd : (tx s).drop i = [] := List.drop_eq_nil_of_le (by omega)
   have stop : ∀ w b, cI s (n + 1) w b ((i + 1 : Nat) : Int) = some (.x0 w) := fun w b => by
    unfold cI
    rw [decide_eq_false (by omega)]; rfl
   have hc : gr (seg (tx s) a i) (bK 32 ([] : List UInt8)) = [seg (tx s) a i] := by simp [bK, gr]
   have hf : ([seg (tx s) a i].map ofTx).filter aU = if a = i then [] else [s.extract a i] := by
    rw [List.map_cons, List.map_nil, List.filter_cons, Bz, EV ha (by omega), k9]
    by_cases q : a = i
    ·rw [if_pos q, decide_eq_true q]; rfl
    ·rw [if_neg q, decide_eq_false q]; rfl
   rw [decide_eq_false (by omega : ¬ (i : Int) < (s.size : Int)), cond_false, hinc, hd, hc, hf, List.all_nil, if_pos rfl]
   by_cases q : a = i
   ·rw [decide_eq_false (by omega), cond_false, stop, if_pos q, List.append_nil]
   ·rw [decide_eq_true (by omega), cond_true, if_pos (by omega), if_pos (by simp; omega), stop, if_neg q]; rfl
  | succ m =>
   obtain ⟨b, r, hd, hg, hr⟩ := BA (l := tx s) (i := i) (by omega)
   have hb := Bc hg
   have ih := fun a' v' (h1 : a' ≤ i + 1) (h2 : v'.length + m ≤ 2000000) => Hr s hs m (i + 1) a' v' (n + 1) (by omega) (by omega) h1 h2
   rw [hr] at ih
   rw [decide_eq_true (by omega : (i : Int) < (s.size : Int)), cond_true, if_pos (by omega), hb, hinc, hd, List.all_cons]
   have bl := b.toNat_lt
   by_cases h : b.toNat < 32
   ·rw [decide_eq_true (by omega : ((b.toNat : Int) < 32)), cond_true, Hk h]; rfl
   ·rw [decide_eq_false (by omega : ¬ ((b.toNat : Int) < 32)), cond_false]
    by_cases h' : 126 < b.toNat
    ·rw [decide_eq_true (by omega : ((b.toNat : Int) > 126)), cond_true, Hi h']; rfl
    ·rw [decide_eq_false (by omega : ¬ ((b.toNat : Int) > 126)), cond_false, Hj h h', Bool.true_and]
     by_cases q : b = 32
     ·subst q
      have e : (((32 : UInt8).toNat : Int) != 32) = false := by decide
      rw [e, cond_false, py]
      have hgl : gr (seg (tx s) a i) ([] :: bK 32 r) = seg (tx s) a i :: bK 32 r := by simp [gr]
      rw [hgl, List.map_cons, List.filter_cons, Bz, EV ha (by omega)]
      have hz : gr (seg (tx s) (i + 1) (i + 1)) (bK 32 r) = bK 32 r := by rw [pZ]; exact r8 _ (gw _ _)
      by_cases q : a = i
      ·have := ih (i + 1) v (by omega) (by omega)
       rw [hz] at this
       rw [decide_eq_false (by omega), cond_false, this, decide_eq_true q]; rfl
      ·have := ih (i + 1) (v ++ [s.extract a i]) (by omega) (by simp; omega)
       rw [hz] at this
       rw [decide_eq_true (by omega), cond_true, if_pos (by omega), if_pos (by simp; omega)]
       rw [show ((a : Int).toNat) = a by omega, show ((i : Int).toNat) = i by omega, this, decide_eq_false q, k9]
       simp
     ·have e : ((b.toNat : Int) != 32) = true := by
       rw [bne_iff_ne]
       intro h
       exact q (UInt8.toNat_inj.1 (by show b.toNat = 32; omega))
      rw [e, cond_true, ih a v (by omega) (by omega), lX q, zq _ _ _ (gw _ _), ← CX ha hg]
theorem Hq (s : ByteArray) : nS s = some (aN s) := by
 unfold nS aN
 by_cases h : 600 < s.size
 ·rw [decide_eq_true (by omega), if_pos h]; rfl
 ·have hz : gr (seg (tx s) 0 0) (bK 32 (tx s)) = bK 32 (tx s) := by rw [pZ]; exact r8 _ (gw _ _)
  have e := Hr s (by omega) (tx s).length 0 0 [] 9223372036854775808 (by omega) (by rw [← bM]; omega) (by omega) (by rw [← bM]; simp; omega)
  rw [List.drop_zero, hz, List.nil_append] at e
  rw [decide_eq_false (by omega), if_neg h, cond_false]
  refine (congrArg (Option.bind · _) e).trans ?_
  by_cases q : (tx s).all okB = true
  ·rw [if_pos q, if_pos q, Option.bind_some]
   simp only
   by_cases r : 10 < (((bK 32 (tx s)).map ofTx).filter aU).length
   ·rw [decide_eq_true (by omega), if_pos r]; rfl
   ·rw [decide_eq_false (by omega), if_neg r]; rfl
  ·rw [if_neg q, if_neg q]; rfl
theorem qT {s p : ByteArray} (h : p ∈ (aN s).1) : p.size ≤ 600 := by
 unfold aN at h
 split at h
 ·cases h
 ·rename_i h0
  split at h
  ·split at h
   ·cases h
   ·obtain ⟨x, hx, rfl⟩ := List.mem_map.1 (List.mem_filter.1 h).1
    have := wd _ _ x hx
    rw [l9]
    rw [← bM] at this
    omega
  ·cases h
theorem Dk (x0 : ByteArray) : Does E 76 [.one (tS x0)] [(false, [.s .own () 1 (((aN x0).1).map etS)]), (false, [tB ((aN x0).2)])] := by
 exact Eh x0 _ (Hq x0)
theorem lj (x0 : ByteArray) {bb : Bool} (hbb : (aN x0).2 = bb) : Does E 76 [.one (tS x0)] [(false, [.s .own () 1 (((aN x0).1).map etS)]), (false, [tB bb])] := by rw [← hbb]; exact Dk x0
theorem Dg (x0 : ByteArray) : Does E 85 [.one (tS x0)] [(false, [.s .own () 1 (((aN x0).1).map etS)]), (false, [tB ((aN x0).2)])] := by
 exact DM x0 _ (Hp x0)
theorem li (x0 : ByteArray) {bb : Bool} (hbb : (aN x0).2 = bb) : Does E 85 [.one (tS x0)] [(false, [.s .own () 1 (((aN x0).1).map etS)]), (false, [tB bb])] := by rw [← hbb]; exact Dg x0
inductive pU where
 | ret (v2 : Int) (v3 : Bool)
 | x0 (v4 : Int)
def dX (v0 : ByteArray) (v4 v5 : Int) : US := stL 42 [(0, .one (tS v0)), (4, .one (tI v4)), (5, .one (tI v5))]
def gq (zv2 : Int) (zv3 : Bool) : US := stL 42 [(2, .one (tI zv2)), (3, .one (tB zv3))]
def fh (v0 : ByteArray) (zv4 : Int) : US := stL 42 [(0, .one (tS v0)), (4, .one (tI zv4))]
abbrev iY : US → Exit → US → Prop := Round E 118 (ax Tryz.f118 0)
def wD (v0 : ByteArray) (v4 v5 : Int) : pU → Prop
 | .ret zv2 zv3 => Loops E 118 (ax Tryz.f118 0) (dX v0 v4 v5) .ret (gq zv2 zv3)
 | .x0 zv4 => Loops E 118 (ax Tryz.f118 0) (dX v0 v4 v5) (.exit 0) (fh v0 zv4)
noncomputable def dY (v0 : ByteArray) : List Int → Nat → Int → Option pU
 | [], i, v4 => some (.x0 v4)
 | hd :: rest, i, v4 => cond (decide (hd < (48 : Int)))
  (some (.ret (0 : Int) false))
  (cond (decide (hd > (57 : Int)))
   (some (.ret (0 : Int) false))
   (dY v0 rest (i + 1) (IntKind.wrap .i64 ((IntKind.wrap .i64 ((IntKind.wrap .i64 ((10 : Int) * v4)) + (IntKind.wrap .i64 hd))) - (48 : Int)))))
theorem wC (v0 : ByteArray) (rest : List Int) : ∀ (i : Nat) (v4 : Int), (bN v0).drop i = rest → v0.size ≤ 9223372036854775807 → Ans (dY v0 rest i v4) (wD v0 v4 (i : Int)) := by
 induction rest with
 | nil =>
  intro i v4 hE hl
  have hb := pB hE
  unfold dY
  exact K5 (K7 (show iY (dX v0 v4 (i : Int)) (.exit 0) (fh v0 v4) from K3 [.b false] _ (fun k => by kernel_rfl) (AC hb <| AN)) (by intro h; cases h))
 | cons hd rest ih =>
  intro i v4 hE hl
  have hb := oe hE
  have hw := of hE hl
  have hE2 := aG hE
  have hp := rl hE
  obtain rfl := rk hE
  unfold dY
  refine K8 (fun h2 => ?_) (fun h2 => ?_)
  ·exact K5 (K7 (show iY (dX v0 v4 (i : Int)) .ret (gq (0 : Int) false) from K3 [.b true, .b true] _ (fun k => by kernel_rfl) (AC hb <| AC hp <| AC h2 <| AN)) (by intro h; cases h))
  ·refine K8 (fun h3 => ?_) (fun h3 => ?_)
   ·exact K5 (K7 (show iY (dX v0 v4 (i : Int)) .ret (gq (0 : Int) false) from K3 [.b true, .b false, .b true] _ (fun k => by kernel_rfl) (AC hb <| AC hp <| AC h2 <| AC hp <| AC h3 <| AN)) (by intro h; cases h))
   ·exact (ih (i + 1) (IntKind.wrap .i64 ((IntKind.wrap .i64 ((IntKind.wrap .i64 ((10 : Int) * v4)) + (IntKind.wrap .i64 (fI v0 (i : Int))))) - (48 : Int))) hE2 hl).mono fun y hy => by have r : iY (dX v0 v4 (i : Int)) .normal (dX v0 (IntKind.wrap .i64 ((IntKind.wrap .i64 ((IntKind.wrap .i64 ((10 : Int) * v4)) + (IntKind.wrap .i64 (fI v0 (i : Int))))) - (48 : Int))) (inc (i : Int))) := K3 [.b true, .b false, .b false] _ (fun k => by kernel_rfl) (AC hb <| AC hp <| AC h2 <| AC hp <| AC h3 <| AC hp <| AN); rw [hw] at r; cases y <;> exact K6 r hy
noncomputable def jH (x0 : ByteArray) : Option (Int × Bool) :=
  cond (decide ((x0.size : Int) > (10 : Int)))
   (some ((0 : Int), false))
   (if x0.size ≤ 9223372036854775807 then (dY x0 (bN x0) 0 (0 : Int)).bind fun y => match y with
    | .ret w0_2 w0_3 => (some (w0_2, w0_3))
    | .x0 w0_4 => (cond (decide (w0_4 > (1000000000 : Int)))
     (some ((0 : Int), false))
     (if -9223372036854775808 ≤ w0_4 ∧ w0_4 ≤ 9223372036854775807 then cond (!((ak w0_4).toList == x0.toList))
      (some ((0 : Int), false))
      (some (w0_4, true)) else none)) else none)
theorem xL (x0 : ByteArray) : Ans (jH x0) (fun r => Does E 118 [.one (tS x0)] [(false, [tI r.1]), (false, [tB r.2])]) := by
 unfold jH
 refine K8 (fun h0 => ?_) (fun h0 => ?_)
 ·exact K5 (K4 (fn := Tryz.f118) [.b true] _ rfl (fun _ => rfl) (fun k => by kernel_rfl) (AC h0 <| AN))
 ·refine La (fun hl2 => ?_)
  refine K9 (fun y hy => ?_)
  replace hy := wC x0 (bN x0) 0 (0 : Int) rfl hl2 y hy
  cases y with
  | ret w0_2 w0_3 =>
   have h1 := hy
   exact K5 (K4 (fn := Tryz.f118) [.b false, .lp .ret (gq w0_2 w0_3)] _ rfl (fun _ => rfl) (fun k => by kernel_rfl) (AC h0 <| AL h1 <| AN))
  | x0 w0_4 =>
   have h1 := hy
   refine K8 (fun h2 => ?_) (fun h2 => ?_)
   ·exact K5 (K4 (fn := Tryz.f118) [.b false, .lp (.exit 0) (fh x0 w0_4), .b true] _ rfl (fun _ => rfl) (fun k => by kernel_rfl) (AC h0 <| AL h1 <| AC h2 <| AN))
   ·refine La (fun h3 => ?_)
    refine K8 (fun h4 => ?_) (fun h4 => ?_)
    ·exact K5 (K4 (fn := Tryz.f118) [.b false, .lp (.exit 0) (fh x0 w0_4), .b false, .ret [(false, [tS (ak w0_4)])], .b true] _ rfl (fun _ => rfl) (fun k => by kernel_rfl) (AC h0 <| AL h1 <| AC h2 <| AD (de w0_4 h3) <| AC h4 <| AN))
    ·exact K5 (K4 (fn := Tryz.f118) [.b false, .lp (.exit 0) (fh x0 w0_4), .b false, .ret [(false, [tS (ak w0_4)])], .b false] _ rfl (fun _ => rfl) (fun k => by kernel_rfl) (AC h0 <| AL h1 <| AC h2 <| AD (de w0_4 h3) <| AC h4 <| AN))
inductive pF where
 | ret (v2 : Int) (v3 : Bool)
 | x0 (v4 : Int)
def dS (v0 : ByteArray) (v4 v5 : Int) : US := stL 47 [(0, .one (tS v0)), (4, .one (tI v4)), (5, .one (tI v5))]
def gp (zv2 : Int) (zv3 : Bool) : US := stL 47 [(2, .one (tI zv2)), (3, .one (tB zv3))]
def fa (v0 : ByteArray) (zv4 : Int) : US := stL 47 [(0, .one (tS v0)), (4, .one (tI zv4))]
abbrev iQ : US → Exit → US → Prop := Round E 127 (ax Tryz.f127 0)
def wq (v0 : ByteArray) (v4 v5 : Int) : pF → Prop
 | .ret zv2 zv3 => Loops E 127 (ax Tryz.f127 0) (dS v0 v4 v5) .ret (gp zv2 zv3)
 | .x0 zv4 => Loops E 127 (ax Tryz.f127 0) (dS v0 v4 v5) (.exit 0) (fa v0 zv4)
noncomputable def dT (v0 : ByteArray) : List Int → Nat → Int → Option pF
 | [], i, v4 => some (.x0 v4)
 | hd :: rest, i, v4 => cond (decide (hd < (48 : Int)))
  (some (.ret (0 : Int) false))
  (cond (decide (hd > (57 : Int)))
   (some (.ret (0 : Int) false))
   (dT v0 rest (i + 1) (IntKind.wrap .i64 ((IntKind.wrap .i64 (v4 * (10 : Int))) + (IntKind.wrap .i64 (IntKind.wrap .u8 (hd - (48 : Int))))))))
theorem wo (v0 : ByteArray) (rest : List Int) : ∀ (i : Nat) (v4 : Int), (bN v0).drop i = rest → v0.size ≤ 9223372036854775807 → Ans (dT v0 rest i v4) (wq v0 v4 (i : Int)) := by
 induction rest with
 | nil =>
  intro i v4 hE hl
  have hb := pB hE
  unfold dT
  exact K5 (K7 (show iQ (dS v0 v4 (i : Int)) (.exit 0) (fa v0 v4) from K3 [.b false] _ (fun k => by kernel_rfl) (AC hb <| AN)) (by intro h; cases h))
 | cons hd rest ih =>
  intro i v4 hE hl
  have hb := oe hE
  have hw := of hE hl
  have hE2 := aG hE
  have hp := rl hE
  obtain rfl := rk hE
  unfold dT
  refine K8 (fun h2 => ?_) (fun h2 => ?_)
  ·exact K5 (K7 (show iQ (dS v0 v4 (i : Int)) .ret (gp (0 : Int) false) from K3 [.b true, .b true] _ (fun k => by kernel_rfl) (AC hb <| AC hp <| AC h2 <| AN)) (by intro h; cases h))
  ·refine K8 (fun h3 => ?_) (fun h3 => ?_)
   ·exact K5 (K7 (show iQ (dS v0 v4 (i : Int)) .ret (gp (0 : Int) false) from K3 [.b true, .b false, .b true] _ (fun k => by kernel_rfl) (AC hb <| AC hp <| AC h2 <| AC hp <| AC h3 <| AN)) (by intro h; cases h))
   ·exact (ih (i + 1) (IntKind.wrap .i64 ((IntKind.wrap .i64 (v4 * (10 : Int))) + (IntKind.wrap .i64 (IntKind.wrap .u8 ((fI v0 (i : Int)) - (48 : Int)))))) hE2 hl).mono fun y hy => by have r : iQ (dS v0 v4 (i : Int)) .normal (dS v0 (IntKind.wrap .i64 ((IntKind.wrap .i64 (v4 * (10 : Int))) + (IntKind.wrap .i64 (IntKind.wrap .u8 ((fI v0 (i : Int)) - (48 : Int)))))) (inc (i : Int))) := K3 [.b true, .b false, .b false] _ (fun k => by kernel_rfl) (AC hb <| AC hp <| AC h2 <| AC hp <| AC h3 <| AC hp <| AN); rw [hw] at r; cases y <;> exact K6 r hy
noncomputable def jC (x0 : ByteArray) : Option (Int × Bool) :=
  cond ((x0.size : Int) == (0 : Int))
   (some ((0 : Int), false))
   (cond (decide ((x0.size : Int) > (10 : Int)))
    (some ((0 : Int), false))
    (if x0.size ≤ 9223372036854775807 then (dT x0 (bN x0) 0 (0 : Int)).bind fun y => match y with
     | .ret w0_2 w0_3 => (some (w0_2, w0_3))
     | .x0 w0_4 => (cond (decide (w0_4 > (1000000000 : Int)))
      (some ((0 : Int), false))
      (if -9223372036854775808 ≤ w0_4 ∧ w0_4 ≤ 9223372036854775807 then cond (!((ak w0_4).toList == x0.toList))
       (some ((0 : Int), false))
       (some (w0_4, true)) else none)) else none))
theorem xl (x0 : ByteArray) : Ans (jC x0) (fun r => Does E 127 [.one (tS x0)] [(false, [tI r.1]), (false, [tB r.2])]) := by
 unfold jC
 refine K8 (fun h0 => ?_) (fun h0 => ?_)
 ·exact K5 (K4 (fn := Tryz.f127) [.b true] _ rfl (fun _ => rfl) (fun k => by kernel_rfl) (AC h0 <| AN))
 ·refine K8 (fun h1 => ?_) (fun h1 => ?_)
  ·exact K5 (K4 (fn := Tryz.f127) [.b false, .b true] _ rfl (fun _ => rfl) (fun k => by kernel_rfl) (AC h0 <| AC h1 <| AN))
  ·refine La (fun hl3 => ?_)
   refine K9 (fun y hy => ?_)
   replace hy := wo x0 (bN x0) 0 (0 : Int) rfl hl3 y hy
   cases y with
   | ret w0_2 w0_3 =>
    have h2 := hy
    exact K5 (K4 (fn := Tryz.f127) [.b false, .b false, .lp .ret (gp w0_2 w0_3)] _ rfl (fun _ => rfl) (fun k => by kernel_rfl) (AC h0 <| AC h1 <| AL h2 <| AN))
   | x0 w0_4 =>
    have h2 := hy
    refine K8 (fun h3 => ?_) (fun h3 => ?_)
    ·exact K5 (K4 (fn := Tryz.f127) [.b false, .b false, .lp (.exit 0) (fa x0 w0_4), .b true] _ rfl (fun _ => rfl) (fun k => by kernel_rfl) (AC h0 <| AC h1 <| AL h2 <| AC h3 <| AN))
    ·refine La (fun h4 => ?_)
     refine K8 (fun h5 => ?_) (fun h5 => ?_)
     ·exact K5 (K4 (fn := Tryz.f127) [.b false, .b false, .lp (.exit 0) (fa x0 w0_4), .b false, .ret [(false, [tS (ak w0_4)])], .b true] _ rfl (fun _ => rfl) (fun k => by kernel_rfl) (AC h0 <| AC h1 <| AL h2 <| AC h3 <| AD (dE w0_4 h4) <| AC h5 <| AN))
     ·exact K5 (K4 (fn := Tryz.f127) [.b false, .b false, .lp (.exit 0) (fa x0 w0_4), .b false, .ret [(false, [tS (ak w0_4)])], .b false] _ rfl (fun _ => rfl) (fun k => by kernel_rfl) (AC h0 <| AC h1 <| AL h2 <| AC h3 <| AD (dE w0_4 h4) <| AC h5 <| AN))
def kE : List UInt8 → Int → Option Int
 | [], v => some v
 | b :: l, v => if 48 ≤ b.toNat ∧ b.toNat ≤ 57 then kE l (10 * v + ((b.toNat : Int) - 48)) else none
noncomputable def ab (s : ByteArray) : Int × Bool :=
 if 10 < s.size then (0, false) else match kE (tx s) 0 with
  | none => (0, false)
  | some n => if 1000000000 < n then (0, false) else if tx (ak n) = tx s then (n, true) else (0, false)
theorem vO : ∀ (l : List UInt8) (v : Int) (k : Nat) (r : Int), 0 ≤ v → v < 10 ^ k → kE l v = some r → 0 ≤ r ∧ r < 10 ^ (k + l.length)
 | [], v, k, r, h0, h1, h => by cases h; exact ⟨h0, h1⟩
 | b :: l, v, k, r, h0, h1, h => by
  unfold kE at h
  split at h
  ·rename_i hb
   have := vO l (10 * v + ((b.toNat : Int) - 48)) (k + 1) r (by omega) (by rw [Int.pow_succ]; omega) h
   rw [List.length_cons, show k + (l.length + 1) = k + 1 + l.length by omega]
   exact this
  ·cases h
theorem Cr {k n : Nat} (h : k ≤ n) : (10 : Int) ^ k ≤ 10 ^ n := by
 have := Nat.pow_le_pow_right (n := 10) (by omega) h
 have e : ∀ m : Nat, (10 : Int) ^ m = ((10 ^ m : Nat) : Int) := fun m => by simp
 rw [e, e]; omega
theorem Ct (s : ByteArray) : ∀ (l : List UInt8) (i : Nat) (v : Int) (k : Nat), 0 ≤ v → v < 10 ^ k → k + l.length ≤ 10 →
  dY s (l.map fun b => (b.toNat : Int)) i v = some (match kE l v with | some r => .x0 r | none => .ret 0 false) ∧
  dT s (l.map fun b => (b.toNat : Int)) i v = some (match kE l v with | some r => .x0 r | none => .ret 0 false)
 | [], i, v, k, _, _, _ => ⟨rfl, rfl⟩
 | b :: l, i, v, k, h0, h1, hk => by
  have hp := Cr (show k ≤ 10 by omega)
  have e10 : (10 : Int) ^ 10 = 10000000000 := by decide
  rw [List.map_cons]
  unfold dY dT kE
  have bl := b.toNat_lt
  by_cases h : b.toNat < 48
  ·rw [decide_eq_true (by omega : ((b.toNat : Int) < 48)), if_neg (by omega)]
   exact ⟨rfl, rfl⟩
  ·rw [decide_eq_false (by omega : ¬ ((b.toNat : Int) < 48)), cond_false, cond_false]
   by_cases h' : 57 < b.toNat
   ·rw [decide_eq_true (by omega : ((b.toNat : Int) > 57)), if_neg (by omega)]
    exact ⟨rfl, rfl⟩
   ·rw [decide_eq_false (by omega : ¬ ((b.toNat : Int) > 57)), if_pos (by omega), cond_false, cond_false]
    have w1 : IntKind.wrap .i64 (IntKind.wrap .i64 (IntKind.wrap .i64 (10 * v) + IntKind.wrap .i64 (b.toNat : Int)) - 48) = 10 * v + ((b.toNat : Int) - 48) := by
     rw [cP (10 * v) (by omega) (by omega), cP (b.toNat : Int) (by omega) (by omega), cP (10 * v + (b.toNat : Int)) (by omega) (by omega), cP _ (by omega) (by omega)]; omega
    have w2 : IntKind.wrap .i64 (IntKind.wrap .i64 (v * 10) + IntKind.wrap .i64 (IntKind.wrap .u8 ((b.toNat : Int) - 48))) = 10 * v + ((b.toNat : Int) - 48) := by
     rw [IZ (by omega) (by omega), cP (v * 10) (by omega) (by omega), cP ((b.toNat : Int) - 48) (by omega) (by omega), cP _ (by omega) (by omega)]; omega
    rw [w1, w2]
    simp only [List.length_cons] at hk
    exact Ct s l (i + 1) _ (k + 1) (by omega) (by rw [Int.pow_succ]; omega) (by omega)
theorem qU {s : ByteArray} (h : ¬ 10 < s.size) {r : Int} (hr : kE (tx s) 0 = some r) : 0 ≤ r ∧ r < 10000000000 := by
 have := vO (tx s) 0 0 r (by omega) (by decide) hr
 have hp := Cr (show 0 + (tx s).length ≤ 10 by rw [← bM]; omega)
 have e10 : (10 : Int) ^ 10 = 10000000000 := by decide
 omega
theorem Hv (s : ByteArray) : jH s = some (ab s) := by
 unfold jH ab
 by_cases h : 10 < s.size
 ·rw [decide_eq_true (by omega), if_pos h]; rfl
 ·obtain ⟨e, -⟩ := Ct s (tx s) 0 0 0 (by omega) (by decide) (by rw [← bM]; omega)
  rw [decide_eq_false (by omega), if_neg h, cond_false, if_pos (by omega), pf, e]
  cases q : kE (tx s) 0 with
  | none => rfl
  | some n =>
   obtain ⟨n0, n1⟩ := qU h q
   simp only [Option.bind_some]
   by_cases z : 1000000000 < n
   ·rw [decide_eq_true (by omega), if_pos z]; rfl
   ·rw [decide_eq_false (by omega), if_neg z, cond_false, if_pos (by omega), ja]
    by_cases y : tx (ak n) = tx s
    ·rw [decide_eq_true y, if_pos y]; rfl
    ·rw [decide_eq_false y, if_neg y]; rfl
theorem Hu (s : ByteArray) : jC s = some (ab s) := by
 unfold jC ab
 by_cases hz : s.size = 0
 ·have ht : tx s = [] := List.eq_nil_of_length_eq_zero (by rw [← bM]; exact hz)
  have e1 : ((s.size : Int) == 0) = true := by rw [hz]; rfl
  rw [e1, cond_true, if_neg (by omega), ht]
  unfold kE
  simp only
  have : ¬ tx (ak 0) = [] := by
   unfold ak Lib.itoa
   rw [if_neg (by omega), Lib.decDigits, dif_pos (by simp)]
   simp [tx]
  rw [if_neg (by omega), if_neg this]
 have e1 : ((s.size : Int) == 0) = false := by rw [beq_eq_false_iff_ne]; omega
 rw [e1, cond_false]
 by_cases h : 10 < s.size
 ·rw [decide_eq_true (by omega), if_pos h]; rfl
 ·obtain ⟨-, e⟩ := Ct s (tx s) 0 0 0 (by omega) (by decide) (by rw [← bM]; omega)
  rw [decide_eq_false (by omega), if_neg h, cond_false, if_pos (by omega), pf, e]
  cases q : kE (tx s) 0 with
  | none => rfl
  | some n =>
   obtain ⟨n0, n1⟩ := qU h q
   simp only [Option.bind_some]
   by_cases z : 1000000000 < n
   ·rw [decide_eq_true (by omega), if_pos z]; rfl
   ·rw [decide_eq_false (by omega), if_neg z, cond_false, if_pos (by omega), ja]
    by_cases y : tx (ak n) = tx s
    ·rw [decide_eq_true y, if_pos y]; rfl
    ·rw [decide_eq_false y, if_neg y]; rfl
theorem F4 (s : ByteArray) : 0 ≤ (ab s).1 ∧ (ab s).1 ≤ 1000000000 := by
 unfold ab
 split
 ·exact ⟨Int.le_refl _, by decide⟩
 ·rename_i h
  split
  ·exact ⟨Int.le_refl _, by decide⟩
  ·rename_i n q
   obtain ⟨n0, n1⟩ := qU h q
   split
   ·exact ⟨Int.le_refl _, by decide⟩
   ·split
    ·exact ⟨n0, by show n ≤ _; omega⟩
    ·exact ⟨Int.le_refl _, by decide⟩
theorem zC : ∀ {l : List UInt8} {b : UInt8} (v : Int), b ∈ l → ¬ (48 ≤ b.toNat ∧ b.toNat ≤ 57) → kE l v = none
 | x :: l, b, v, h, hb => by
  unfold kE
  rcases List.mem_cons.1 h with rfl | h
  ·rw [if_neg hb]
  ·split
   ·exact zC _ h hb
   ·rfl
theorem vN {s : ByteArray} {b : UInt8} (h : b ∈ tx s) (hb : ¬ (48 ≤ b.toNat ∧ b.toNat ≤ 57)) : ab s = (0, false) := by
 unfold ab
 rw [zC 0 h hb]
 split <;> rfl
theorem mg (x0 : ByteArray) : Does E 118 [.one (tS x0)] [(false, [tI ((ab x0).1)]), (false, [tB ((ab x0).2)])] := by
 exact xL x0 _ (Hv x0)
theorem az (x0 : ByteArray) {bb : Bool} (hbb : (ab x0).2 = bb) : Does E 118 [.one (tS x0)] [(false, [tI ((ab x0).1)]), (false, [tB bb])] := by rw [← hbb]; exact mg x0
theorem qe (x0 : ByteArray) : Does E 127 [.one (tS x0)] [(false, [tI ((ab x0).1)]), (false, [tB ((ab x0).2)])] := by
 exact xl x0 _ (Hu x0)
theorem bm (x0 : ByteArray) {bb : Bool} (hbb : (ab x0).2 = bb) : Does E 127 [.one (tS x0)] [(false, [tI ((ab x0).1)]), (false, [tB bb])] := by rw [← hbb]; exact qe x0
inductive tq where
 | x0 (v5 : List ByteArray)
def eM (v0 : ByteArray) (v1 : Int) (v5 : List ByteArray) (v6 v7 : Int) : US := stL 36 [(0, .one (tS v0)), (1, .one (tY v1)), (5, .one (.s .own () 1 (v5.map etS))), (6, .one (tI v6)), (7, .one (tI v7))]
def mW (zv5 : List ByteArray) : US := stL 36 [(5, .one (.s .own () 1 (zv5.map etS)))]
abbrev lA : US → Exit → US → Prop := Round E 101 (ax Tryz.f101 0)
def Ax (v0 : ByteArray) (v1 : Int) (v5 : List ByteArray) (v6 v7 : Int) : tq → Prop
 | .x0 zv5 => Loops E 101 (ax Tryz.f101 0) (eM v0 v1 v5 v6 v7) (.exit 0) (mW zv5)
noncomputable def dh (v0 : ByteArray) (v1 : Int) : Nat → (List ByteArray) → Int → Int → Option tq
 | 0, _, _, _ => none
 | n + 1, v5, v6, v7 => cond (decide (v7 ≤ (v0.size : Int)))
  (cond (v7 == (v0.size : Int))
   (if 0 ≤ v6 ∧ v6 ≤ v7 ∧ v7 ≤ (v0.size : Int) then if (v5.length + ([v0.extract v6.toNat v7.toNat]).length) * 16 ≤ 140737488355328 ∧ v5.length + ([v0.extract v6.toNat v7.toNat]).length ≤ 4611686018427387904 then dh v0 v1 n (v5 ++ ([v0.extract v6.toNat v7.toNat])) (inc v7) (inc v7) else none else none)
   (if 0 ≤ v7 ∧ v7 < (v0.size : Int) then cond ((fI v0 v7) == v1)
    (if 0 ≤ v6 ∧ v6 ≤ v7 ∧ v7 ≤ (v0.size : Int) then if (v5.length + ([v0.extract v6.toNat v7.toNat]).length) * 16 ≤ 140737488355328 ∧ v5.length + ([v0.extract v6.toNat v7.toNat]).length ≤ 4611686018427387904 then dh v0 v1 n (v5 ++ ([v0.extract v6.toNat v7.toNat])) (inc v7) (inc v7) else none else none)
    (dh v0 v1 n v5 v6 (inc v7)) else none))
  (some (.x0 v5))
theorem Aw (v0 : ByteArray) (v1 : Int) (n : Nat) : ∀ (v5 : List ByteArray) (v6 v7 : Int), Ans (dh v0 v1 n v5 v6 v7) (Ax v0 v1 v5 v6 v7) := by
 induction n with
 | zero => intros; exact Ans.none
 | succ n ih =>
  intro v5 v6 v7
  unfold dh
  refine K8 (fun h0 => ?_) (fun h0 => ?_)
  ·refine K8 (fun h1 => ?_) (fun h1 => ?_)
   ·refine La (fun h2 => ?_)
    refine La (fun h3 => ?_)
    have r : lA (eM v0 v1 v5 v6 v7) .normal (eM v0 v1 (v5 ++ ([v0.extract v6.toNat v7.toNat])) (inc v7) (inc v7)) := K3 [.b true, .b true, .rows ((v5 ++ ([v0.extract v6.toNat v7.toNat])).map etS)] _ (fun k => by kernel_rfl) (AC h0 <| AC h1 <| AC h2 <| AAp etS (fun _ => rfl) h3 <| AN); exact (ih (v5 ++ ([v0.extract v6.toNat v7.toNat])) (inc v7) (inc v7)).mono fun y hy => by cases y <;> exact K6 r hy
   ·refine La (fun h2 => ?_)
    refine K8 (fun h3 => ?_) (fun h3 => ?_)
    ·refine La (fun h4 => ?_)
     refine La (fun h5 => ?_)
     have r : lA (eM v0 v1 v5 v6 v7) .normal (eM v0 v1 (v5 ++ ([v0.extract v6.toNat v7.toNat])) (inc v7) (inc v7)) := K3 [.b true, .b false, .b true, .rows ((v5 ++ ([v0.extract v6.toNat v7.toNat])).map etS)] _ (fun k => by kernel_rfl) (AC h0 <| AC h1 <| AC h2 <| AC h3 <| AC h4 <| AAp etS (fun _ => rfl) h5 <| AN); exact (ih (v5 ++ ([v0.extract v6.toNat v7.toNat])) (inc v7) (inc v7)).mono fun y hy => by cases y <;> exact K6 r hy
    ·have r : lA (eM v0 v1 v5 v6 v7) .normal (eM v0 v1 v5 v6 (inc v7)) := K3 [.b true, .b false, .b false] _ (fun k => by kernel_rfl) (AC h0 <| AC h1 <| AC h2 <| AC h3 <| AN); exact (ih v5 v6 (inc v7)).mono fun y hy => by cases y <;> exact K6 r hy
  ·exact K5 (K7 (show lA (eM v0 v1 v5 v6 v7) (.exit 0) (mW v5) from K3 [.b false] _ (fun k => by kernel_rfl) (AC h0 <| AN)) (by intro h; cases h))
noncomputable def mX (x0 : ByteArray) (x1 : Int) : Option ((List ByteArray)) :=
  (dh x0 x1 9223372036854775808 ([]) (0 : Int) (0 : Int)).bind fun y => match y with
   | .x0 w0_5 => (some (w0_5))
theorem CR (x0 : ByteArray) (x1 : Int) : Ans (mX x0 x1) (fun r => Does E 101 [.one (tS x0), .one (tY x1)] [(false, [.s .own () 1 (r.map etS)])]) := by
 unfold mX
 refine K9 (fun y hy => ?_)
 replace hy := Aw x0 x1 9223372036854775808 ([]) (0 : Int) (0 : Int) y hy
 cases y with
 | x0 w0_5 =>
  have h0 := hy
  exact K5 (K4 (fn := Tryz.f101) [.lp (.exit 0) (mW w0_5)] _ rfl (fun _ => rfl) (fun k => by kernel_rfl) (AL h0 <| AN))
noncomputable def an (s : ByteArray) (c : Int) : List ByteArray := (bK (UInt8.ofNat c.toNat) (tx s)).map ofTx
theorem HH (s : ByteArray) (c : UInt8) (hs : s.size ≤ 2000000) : ∀ (m i a : Nat) (v : List ByteArray) (n : Nat), i + m = (tx s).length → m + 1 < n → a ≤ i → v.length + m ≤ 2000000 →
  dh s (c.toNat : Int) n v (a : Int) (i : Int) = some (.x0 (v ++ (gr (seg (tx s) a i) (bK c ((tx s).drop i))).map ofTx))
 | m, i, a, v, n, hi, hn, ha, hv => by
  obtain ⟨n, rfl⟩ : ∃ k, n = k + 2 := ⟨n - 2, by omega⟩
  have hsz := bM s
  unfold dh
  rw [decide_eq_true (by omega : (i : Int) ≤ (s.size : Int)), cond_true]
  have hinc : inc (i : Int) = ((i + 1 : Nat) : Int) := by rw [il _ (by omega) (by omega)]; omega
  cases m with
  | zero =>
   have hd : (tx s).drop i = [] := List.drop_eq_nil_of_le (by omega)
   have stop : ∀ w b, dh s (c.toNat : Int) (n + 1) w b ((i + 1 : Nat) : Int) = some (.x0 w) := fun w b => by
    unfold dh
    rw [decide_eq_false (by omega)]; rfl
   have hc : gr (seg (tx s) a i) (bK c ([] : List UInt8)) = [seg (tx s) a i] := by simp [bK, gr]
   have e : ((i : Int) == (s.size : Int)) = true := by rw [beq_iff_eq]; omega
   rw [e, cond_true, if_pos (by omega), if_pos (by simp; omega), hinc, stop, hd, hc, show ((a : Int).toNat) = a by omega, show ((i : Int).toNat) = i by omega, k9]; rfl
  | succ m =>
   obtain ⟨b, r, hd, hg, hr⟩ := BA (l := tx s) (i := i) (by omega)
   have hb := Bc hg
   have ih := fun a' v' (h1 : a' ≤ i + 1) (h2 : v'.length + m ≤ 2000000) => HH s c hs m (i + 1) a' v' (n + 1) (by omega) (by omega) h1 h2
   rw [hr] at ih
   have e : ((i : Int) == (s.size : Int)) = false := by rw [beq_eq_false_iff_ne]; omega
   rw [e, cond_false, if_pos (by omega), hb, hinc, hd]
   by_cases q : b = c
   ·subst q
    have hgl : gr (seg (tx s) a i) ([] :: bK b r) = seg (tx s) a i :: bK b r := by simp [gr]
    have hz : gr (seg (tx s) (i + 1) (i + 1)) (bK b r) = bK b r := by rw [pZ]; exact r8 _ (gw _ _)
    have := ih (i + 1) (v ++ [s.extract a i]) (by omega) (by simp; omega)
    rw [hz] at this
    rw [beq_self_eq_true, cond_true, if_pos (by omega), if_pos (by simp; omega), py, hgl]
    rw [show ((a : Int).toNat) = a by omega, show ((i : Int).toNat) = i by omega, this, k9]
    simp
   ·have e : ((b.toNat : Int) == (c.toNat : Int)) = false := by
     rw [beq_eq_false_iff_ne]
     intro h
     exact q (UInt8.toNat_inj.1 (by omega))
    rw [e, cond_false, ih a v (by omega) (by omega), lX q, zq _ _ _ (gw _ _), ← CX ha hg]
theorem FT (s : ByteArray) (c : Int) (hs : s.size ≤ 2000000) (hc : 0 ≤ c ∧ c < 256) : mX s c = some (an s c) := by
 have hz : gr (seg (tx s) 0 0) (bK (UInt8.ofNat c.toNat) (tx s)) = bK (UInt8.ofNat c.toNat) (tx s) := by rw [pZ]; exact r8 _ (gw _ _)
 have e := HH s (UInt8.ofNat c.toNat) hs (tx s).length 0 0 [] 9223372036854775808 (by omega) (by rw [← bM]; omega) (by omega) (by rw [← bM]; simp; omega)
 have ec : (((UInt8.ofNat c.toNat).toNat : Nat) : Int) = c := by rw [UInt8.toNat_ofNat']; omega
 rw [List.drop_zero, hz, List.nil_append, ec] at e
 unfold mX an
 refine (congrArg (Option.bind · _) e).trans ?_
 rfl
theorem aZ (x0 : ByteArray) (x1 : Int) (h : x0.size ≤ 2000000) (hc : 0 ≤ x1 ∧ x1 < 256) : Does E 101 [.one (tS x0), .one (tY x1)] [(false, [.s .own () 1 ((an x0 x1).map etS)])] := by
 exact CR x0 x1 _ (FT x0 x1 h hc)
noncomputable def kg (x0 : ByteArray) (x1 x2 : Int) : Option (Int × Int × Int × Bool) :=
  cond (x0.toList == (⟨#[42]⟩ : ByteArray).toList)
   (some (x1, x2, (1 : Int), true))
   (cond (decide ((x0.size : Int) > (2 : Int)))
    (if 0 ≤ (0 : Int) ∧ (0 : Int) ≤ (2 : Int) ∧ (2 : Int) ≤ (x0.size : Int) then cond ((x0.extract (0 : Int).toNat (2 : Int).toNat).toList == (⟨#[42, 47]⟩ : ByteArray).toList)
     (if 0 ≤ (2 : Int) ∧ (2 : Int) ≤ (x0.size : Int) ∧ (x0.size : Int) ≤ (x0.size : Int) then cond ((ab (x0.extract (2 : Int).toNat (x0.size : Int).toNat)).2)
      (some (x1, x2, (ab (x0.extract (2 : Int).toNat (x0.size : Int).toNat)).1, decide (((ab (x0.extract (2 : Int).toNat (x0.size : Int).toNat)).1) ≥ (1 : Int))))
      (some (x1, x2, (ab (x0.extract (2 : Int).toNat (x0.size : Int).toNat)).1, false)) else none)
     (if x0.size ≤ 2000000 then if 0 ≤ (45 : Int) ∧ (45 : Int) < 256 then (aI (an x0 (45 : Int)) (0 : Int)).bind fun g0 => cond ((ab g0).2)
      (cond (((an x0 (45 : Int)).length : Int) == (2 : Int))
       ((aI (an x0 (45 : Int)) (1 : Int)).bind fun g1 => cond ((ab g1).2)
        (cond (decide (((an x0 (45 : Int)).length : Int) ≤ (2 : Int)))
         (cond (decide (x1 ≤ ((ab g0).1)))
          (cond (decide (((ab g0).1) ≤ ((ab g1).1)))
           (some ((ab g0).1, (ab g1).1, (1 : Int), decide (((ab g1).1) ≤ x2)))
           (some ((ab g0).1, (ab g1).1, (1 : Int), false)))
          (some ((ab g0).1, (ab g1).1, (1 : Int), false)))
         (some ((ab g0).1, (ab g1).1, (1 : Int), false)))
        (some ((ab g0).1, (ab g1).1, (1 : Int), false)))
       (cond (decide (((an x0 (45 : Int)).length : Int) ≤ (2 : Int)))
        (cond (decide (x1 ≤ ((ab g0).1)))
         (cond (decide (((ab g0).1) ≤ ((ab g0).1)))
          (some ((ab g0).1, (ab g0).1, (1 : Int), decide (((ab g0).1) ≤ x2)))
          (some ((ab g0).1, (ab g0).1, (1 : Int), false)))
         (some ((ab g0).1, (ab g0).1, (1 : Int), false)))
        (some ((ab g0).1, (ab g0).1, (1 : Int), false))))
      (cond (((an x0 (45 : Int)).length : Int) == (2 : Int))
       ((aI (an x0 (45 : Int)) (1 : Int)).bind fun g1 => some ((ab g0).1, (ab g1).1, (1 : Int), false))
       (some ((ab g0).1, (ab g0).1, (1 : Int), false))) else none else none) else none)
    (if x0.size ≤ 2000000 then if 0 ≤ (45 : Int) ∧ (45 : Int) < 256 then (aI (an x0 (45 : Int)) (0 : Int)).bind fun g0 => cond ((ab g0).2)
     (cond (((an x0 (45 : Int)).length : Int) == (2 : Int))
      ((aI (an x0 (45 : Int)) (1 : Int)).bind fun g1 => cond ((ab g1).2)
       (cond (decide (((an x0 (45 : Int)).length : Int) ≤ (2 : Int)))
        (cond (decide (x1 ≤ ((ab g0).1)))
         (cond (decide (((ab g0).1) ≤ ((ab g1).1)))
          (some ((ab g0).1, (ab g1).1, (1 : Int), decide (((ab g1).1) ≤ x2)))
          (some ((ab g0).1, (ab g1).1, (1 : Int), false)))
         (some ((ab g0).1, (ab g1).1, (1 : Int), false)))
        (some ((ab g0).1, (ab g1).1, (1 : Int), false)))
       (some ((ab g0).1, (ab g1).1, (1 : Int), false)))
      (cond (decide (((an x0 (45 : Int)).length : Int) ≤ (2 : Int)))
       (cond (decide (x1 ≤ ((ab g0).1)))
        (cond (decide (((ab g0).1) ≤ ((ab g0).1)))
         (some ((ab g0).1, (ab g0).1, (1 : Int), decide (((ab g0).1) ≤ x2)))
         (some ((ab g0).1, (ab g0).1, (1 : Int), false)))
        (some ((ab g0).1, (ab g0).1, (1 : Int), false)))
       (some ((ab g0).1, (ab g0).1, (1 : Int), false))))
     (cond (((an x0 (45 : Int)).length : Int) == (2 : Int))
      ((aI (an x0 (45 : Int)) (1 : Int)).bind fun g1 => some ((ab g0).1, (ab g1).1, (1 : Int), false))
      (some ((ab g0).1, (ab g0).1, (1 : Int), false))) else none else none))
theorem CO (x0 : ByteArray) (x1 x2 : Int) : Ans (kg x0 x1 x2) (fun r => Does E 102 [.one (tS x0), .one (tI x1), .one (tI x2)] [(false, [tI r.1]), (false, [tI r.2.1]), (false, [tI r.2.2.1]), (false, [tB r.2.2.2])]) := by
 unfold kg
 refine K8 (fun h0 => ?_) (fun h0 => ?_)
 ·exact K5 (K4 (fn := Tryz.f102) [.b true] _ rfl (fun _ => rfl) (fun k => by kernel_rfl) (AC h0 <| AN))
 ·refine K8 (fun h1 => ?_) (fun h1 => ?_)
  ·refine La (fun h2 => ?_)
   refine K8 (fun h3 => ?_) (fun h3 => ?_)
   ·refine La (fun h4 => ?_)
    refine K8 (fun h5 => ?_) (fun h5 => ?_)
    ·exact K5 (K4 (fn := Tryz.f102) [.b false, .b true, .b true, .ret [(false, [tI ((ab (x0.extract (2 : Int).toNat (x0.size : Int).toNat)).1)]), (false, [tB true])]] _ rfl (fun _ => rfl) (fun k => by kernel_rfl) (AC h0 <| AC h1 <| AC h2 <| AC h3 <| AC h4 <| AD (az (x0.extract (2 : Int).toNat (x0.size : Int).toNat) h5) <| AN))
    ·exact K5 (K4 (fn := Tryz.f102) [.b false, .b true, .b true, .ret [(false, [tI ((ab (x0.extract (2 : Int).toNat (x0.size : Int).toNat)).1)]), (false, [tB false])]] _ rfl (fun _ => rfl) (fun k => by kernel_rfl) (AC h0 <| AC h1 <| AC h2 <| AC h3 <| AC h4 <| AD (az (x0.extract (2 : Int).toNat (x0.size : Int).toNat) h5) <| AN))
   ·refine La (fun h4 => ?_)
    refine La (fun h5 => ?_)
    refine K9 (fun g0 h6 => ?_)
    refine K8 (fun h7 => ?_) (fun h7 => ?_)
    ·refine K8 (fun h8 => ?_) (fun h8 => ?_)
     ·refine K9 (fun g1 h9 => ?_)
      refine K8 (fun h10 => ?_) (fun h10 => ?_)
      ·refine K8 (fun h11 => ?_) (fun h11 => ?_)
       ·refine K8 (fun h12 => ?_) (fun h12 => ?_)
        ·refine K8 (fun h13 => ?_) (fun h13 => ?_)
         ·exact K5 (K4 (fn := Tryz.f102) [.b false, .b true, .b false, .ret [(false, [.s .own () 1 ((an x0 (45 : Int)).map etS)])], .row (etS g0), .ret [(false, [tI ((ab g0).1)]), (false, [tB true])], .val (.int .i64 ((an x0 (45 : Int)).length : Int)), .b true, .row (etS g1), .ret [(false, [tI ((ab g1).1)]), (false, [tB true])], .val (.int .i64 ((an x0 (45 : Int)).length : Int)), .b true, .b true, .b true] _ rfl (fun _ => rfl) (fun k => by kernel_rfl) (AC h0 <| AC h1 <| AC h2 <| AC h3 <| AD (aZ x0 (45 : Int) h4 h5) <| AG etS h6 <| AD (az g0 h7) <| ALn (an x0 (45 : Int)) etS <| AC h8 <| AG etS h9 <| AD (az g1 h10) <| ALn (an x0 (45 : Int)) etS <| AC h11 <| AC h12 <| AC h13 <| AN))
         ·exact K5 (K4 (fn := Tryz.f102) [.b false, .b true, .b false, .ret [(false, [.s .own () 1 ((an x0 (45 : Int)).map etS)])], .row (etS g0), .ret [(false, [tI ((ab g0).1)]), (false, [tB true])], .val (.int .i64 ((an x0 (45 : Int)).length : Int)), .b true, .row (etS g1), .ret [(false, [tI ((ab g1).1)]), (false, [tB true])], .val (.int .i64 ((an x0 (45 : Int)).length : Int)), .b true, .b true, .b false] _ rfl (fun _ => rfl) (fun k => by kernel_rfl) (AC h0 <| AC h1 <| AC h2 <| AC h3 <| AD (aZ x0 (45 : Int) h4 h5) <| AG etS h6 <| AD (az g0 h7) <| ALn (an x0 (45 : Int)) etS <| AC h8 <| AG etS h9 <| AD (az g1 h10) <| ALn (an x0 (45 : Int)) etS <| AC h11 <| AC h12 <| AC h13 <| AN))
        ·exact K5 (K4 (fn := Tryz.f102) [.b false, .b true, .b false, .ret [(false, [.s .own () 1 ((an x0 (45 : Int)).map etS)])], .row (etS g0), .ret [(false, [tI ((ab g0).1)]), (false, [tB true])], .val (.int .i64 ((an x0 (45 : Int)).length : Int)), .b true, .row (etS g1), .ret [(false, [tI ((ab g1).1)]), (false, [tB true])], .val (.int .i64 ((an x0 (45 : Int)).length : Int)), .b true, .b false] _ rfl (fun _ => rfl) (fun k => by kernel_rfl) (AC h0 <| AC h1 <| AC h2 <| AC h3 <| AD (aZ x0 (45 : Int) h4 h5) <| AG etS h6 <| AD (az g0 h7) <| ALn (an x0 (45 : Int)) etS <| AC h8 <| AG etS h9 <| AD (az g1 h10) <| ALn (an x0 (45 : Int)) etS <| AC h11 <| AC h12 <| AN))
       ·exact K5 (K4 (fn := Tryz.f102) [.b false, .b true, .b false, .ret [(false, [.s .own () 1 ((an x0 (45 : Int)).map etS)])], .row (etS g0), .ret [(false, [tI ((ab g0).1)]), (false, [tB true])], .val (.int .i64 ((an x0 (45 : Int)).length : Int)), .b true, .row (etS g1), .ret [(false, [tI ((ab g1).1)]), (false, [tB true])], .val (.int .i64 ((an x0 (45 : Int)).length : Int)), .b false] _ rfl (fun _ => rfl) (fun k => by kernel_rfl) (AC h0 <| AC h1 <| AC h2 <| AC h3 <| AD (aZ x0 (45 : Int) h4 h5) <| AG etS h6 <| AD (az g0 h7) <| ALn (an x0 (45 : Int)) etS <| AC h8 <| AG etS h9 <| AD (az g1 h10) <| ALn (an x0 (45 : Int)) etS <| AC h11 <| AN))
      ·exact K5 (K4 (fn := Tryz.f102) [.b false, .b true, .b false, .ret [(false, [.s .own () 1 ((an x0 (45 : Int)).map etS)])], .row (etS g0), .ret [(false, [tI ((ab g0).1)]), (false, [tB true])], .val (.int .i64 ((an x0 (45 : Int)).length : Int)), .b true, .row (etS g1), .ret [(false, [tI ((ab g1).1)]), (false, [tB false])]] _ rfl (fun _ => rfl) (fun k => by kernel_rfl) (AC h0 <| AC h1 <| AC h2 <| AC h3 <| AD (aZ x0 (45 : Int) h4 h5) <| AG etS h6 <| AD (az g0 h7) <| ALn (an x0 (45 : Int)) etS <| AC h8 <| AG etS h9 <| AD (az g1 h10) <| AN))
     ·refine K8 (fun h9 => ?_) (fun h9 => ?_)
      ·refine K8 (fun h10 => ?_) (fun h10 => ?_)
       ·refine K8 (fun h11 => ?_) (fun h11 => ?_)
        ·exact K5 (K4 (fn := Tryz.f102) [.b false, .b true, .b false, .ret [(false, [.s .own () 1 ((an x0 (45 : Int)).map etS)])], .row (etS g0), .ret [(false, [tI ((ab g0).1)]), (false, [tB true])], .val (.int .i64 ((an x0 (45 : Int)).length : Int)), .b false, .val (.int .i64 ((an x0 (45 : Int)).length : Int)), .b true, .b true, .b true] _ rfl (fun _ => rfl) (fun k => by kernel_rfl) (AC h0 <| AC h1 <| AC h2 <| AC h3 <| AD (aZ x0 (45 : Int) h4 h5) <| AG etS h6 <| AD (az g0 h7) <| ALn (an x0 (45 : Int)) etS <| AC h8 <| ALn (an x0 (45 : Int)) etS <| AC h9 <| AC h10 <| AC h11 <| AN))
        ·exact K5 (K4 (fn := Tryz.f102) [.b false, .b true, .b false, .ret [(false, [.s .own () 1 ((an x0 (45 : Int)).map etS)])], .row (etS g0), .ret [(false, [tI ((ab g0).1)]), (false, [tB true])], .val (.int .i64 ((an x0 (45 : Int)).length : Int)), .b false, .val (.int .i64 ((an x0 (45 : Int)).length : Int)), .b true, .b true, .b false] _ rfl (fun _ => rfl) (fun k => by kernel_rfl) (AC h0 <| AC h1 <| AC h2 <| AC h3 <| AD (aZ x0 (45 : Int) h4 h5) <| AG etS h6 <| AD (az g0 h7) <| ALn (an x0 (45 : Int)) etS <| AC h8 <| ALn (an x0 (45 : Int)) etS <| AC h9 <| AC h10 <| AC h11 <| AN))
       ·exact K5 (K4 (fn := Tryz.f102) [.b false, .b true, .b false, .ret [(false, [.s .own () 1 ((an x0 (45 : Int)).map etS)])], .row (etS g0), .ret [(false, [tI ((ab g0).1)]), (false, [tB true])], .val (.int .i64 ((an x0 (45 : Int)).length : Int)), .b false, .val (.int .i64 ((an x0 (45 : Int)).length : Int)), .b true, .b false] _ rfl (fun _ => rfl) (fun k => by kernel_rfl) (AC h0 <| AC h1 <| AC h2 <| AC h3 <| AD (aZ x0 (45 : Int) h4 h5) <| AG etS h6 <| AD (az g0 h7) <| ALn (an x0 (45 : Int)) etS <| AC h8 <| ALn (an x0 (45 : Int)) etS <| AC h9 <| AC h10 <| AN))
      ·exact K5 (K4 (fn := Tryz.f102) [.b false, .b true, .b false, .ret [(false, [.s .own () 1 ((an x0 (45 : Int)).map etS)])], .row (etS g0), .ret [(false, [tI ((ab g0).1)]), (false, [tB true])], .val (.int .i64 ((an x0 (45 : Int)).length : Int)), .b false, .val (.int .i64 ((an x0 (45 : Int)).length : Int)), .b false] _ rfl (fun _ => rfl) (fun k => by kernel_rfl) (AC h0 <| AC h1 <| AC h2 <| AC h3 <| AD (aZ x0 (45 : Int) h4 h5) <| AG etS h6 <| AD (az g0 h7) <| ALn (an x0 (45 : Int)) etS <| AC h8 <| ALn (an x0 (45 : Int)) etS <| AC h9 <| AN))
    ·refine K8 (fun h8 => ?_) (fun h8 => ?_)
     ·refine K9 (fun g1 h9 => ?_)
      exact K5 (K4 (fn := Tryz.f102) [.b false, .b true, .b false, .ret [(false, [.s .own () 1 ((an x0 (45 : Int)).map etS)])], .row (etS g0), .ret [(false, [tI ((ab g0).1)]), (false, [tB false])], .val (.int .i64 ((an x0 (45 : Int)).length : Int)), .b true, .row (etS g1), .ret [(false, [tI ((ab g1).1)]), (false, [tB ((ab g1).2)])]] _ rfl (fun _ => rfl) (fun k => by kernel_rfl) (AC h0 <| AC h1 <| AC h2 <| AC h3 <| AD (aZ x0 (45 : Int) h4 h5) <| AG etS h6 <| AD (az g0 h7) <| ALn (an x0 (45 : Int)) etS <| AC h8 <| AG etS h9 <| AD (mg g1) <| AN))
     ·exact K5 (K4 (fn := Tryz.f102) [.b false, .b true, .b false, .ret [(false, [.s .own () 1 ((an x0 (45 : Int)).map etS)])], .row (etS g0), .ret [(false, [tI ((ab g0).1)]), (false, [tB false])], .val (.int .i64 ((an x0 (45 : Int)).length : Int)), .b false] _ rfl (fun _ => rfl) (fun k => by kernel_rfl) (AC h0 <| AC h1 <| AC h2 <| AC h3 <| AD (aZ x0 (45 : Int) h4 h5) <| AG etS h6 <| AD (az g0 h7) <| ALn (an x0 (45 : Int)) etS <| AC h8 <| AN))
  ·refine La (fun h2 => ?_)
   refine La (fun h3 => ?_)
   refine K9 (fun g0 h4 => ?_)
   refine K8 (fun h5 => ?_) (fun h5 => ?_)
   ·refine K8 (fun h6 => ?_) (fun h6 => ?_)
    ·refine K9 (fun g1 h7 => ?_)
     refine K8 (fun h8 => ?_) (fun h8 => ?_)
     ·refine K8 (fun h9 => ?_) (fun h9 => ?_)
      ·refine K8 (fun h10 => ?_) (fun h10 => ?_)
       ·refine K8 (fun h11 => ?_) (fun h11 => ?_)
        ·exact K5 (K4 (fn := Tryz.f102) [.b false, .b false, .ret [(false, [.s .own () 1 ((an x0 (45 : Int)).map etS)])], .row (etS g0), .ret [(false, [tI ((ab g0).1)]), (false, [tB true])], .val (.int .i64 ((an x0 (45 : Int)).length : Int)), .b true, .row (etS g1), .ret [(false, [tI ((ab g1).1)]), (false, [tB true])], .val (.int .i64 ((an x0 (45 : Int)).length : Int)), .b true, .b true, .b true] _ rfl (fun _ => rfl) (fun k => by kernel_rfl) (AC h0 <| AC h1 <| AD (aZ x0 (45 : Int) h2 h3) <| AG etS h4 <| AD (az g0 h5) <| ALn (an x0 (45 : Int)) etS <| AC h6 <| AG etS h7 <| AD (az g1 h8) <| ALn (an x0 (45 : Int)) etS <| AC h9 <| AC h10 <| AC h11 <| AN))
        ·exact K5 (K4 (fn := Tryz.f102) [.b false, .b false, .ret [(false, [.s .own () 1 ((an x0 (45 : Int)).map etS)])], .row (etS g0), .ret [(false, [tI ((ab g0).1)]), (false, [tB true])], .val (.int .i64 ((an x0 (45 : Int)).length : Int)), .b true, .row (etS g1), .ret [(false, [tI ((ab g1).1)]), (false, [tB true])], .val (.int .i64 ((an x0 (45 : Int)).length : Int)), .b true, .b true, .b false] _ rfl (fun _ => rfl) (fun k => by kernel_rfl) (AC h0 <| AC h1 <| AD (aZ x0 (45 : Int) h2 h3) <| AG etS h4 <| AD (az g0 h5) <| ALn (an x0 (45 : Int)) etS <| AC h6 <| AG etS h7 <| AD (az g1 h8) <| ALn (an x0 (45 : Int)) etS <| AC h9 <| AC h10 <| AC h11 <| AN))
       ·exact K5 (K4 (fn := Tryz.f102) [.b false, .b false, .ret [(false, [.s .own () 1 ((an x0 (45 : Int)).map etS)])], .row (etS g0), .ret [(false, [tI ((ab g0).1)]), (false, [tB true])], .val (.int .i64 ((an x0 (45 : Int)).length : Int)), .b true, .row (etS g1), .ret [(false, [tI ((ab g1).1)]), (false, [tB true])], .val (.int .i64 ((an x0 (45 : Int)).length : Int)), .b true, .b false] _ rfl (fun _ => rfl) (fun k => by kernel_rfl) (AC h0 <| AC h1 <| AD (aZ x0 (45 : Int) h2 h3) <| AG etS h4 <| AD (az g0 h5) <| ALn (an x0 (45 : Int)) etS <| AC h6 <| AG etS h7 <| AD (az g1 h8) <| ALn (an x0 (45 : Int)) etS <| AC h9 <| AC h10 <| AN))
      ·exact K5 (K4 (fn := Tryz.f102) [.b false, .b false, .ret [(false, [.s .own () 1 ((an x0 (45 : Int)).map etS)])], .row (etS g0), .ret [(false, [tI ((ab g0).1)]), (false, [tB true])], .val (.int .i64 ((an x0 (45 : Int)).length : Int)), .b true, .row (etS g1), .ret [(false, [tI ((ab g1).1)]), (false, [tB true])], .val (.int .i64 ((an x0 (45 : Int)).length : Int)), .b false] _ rfl (fun _ => rfl) (fun k => by kernel_rfl) (AC h0 <| AC h1 <| AD (aZ x0 (45 : Int) h2 h3) <| AG etS h4 <| AD (az g0 h5) <| ALn (an x0 (45 : Int)) etS <| AC h6 <| AG etS h7 <| AD (az g1 h8) <| ALn (an x0 (45 : Int)) etS <| AC h9 <| AN))
     ·exact K5 (K4 (fn := Tryz.f102) [.b false, .b false, .ret [(false, [.s .own () 1 ((an x0 (45 : Int)).map etS)])], .row (etS g0), .ret [(false, [tI ((ab g0).1)]), (false, [tB true])], .val (.int .i64 ((an x0 (45 : Int)).length : Int)), .b true, .row (etS g1), .ret [(false, [tI ((ab g1).1)]), (false, [tB false])]] _ rfl (fun _ => rfl) (fun k => by kernel_rfl) (AC h0 <| AC h1 <| AD (aZ x0 (45 : Int) h2 h3) <| AG etS h4 <| AD (az g0 h5) <| ALn (an x0 (45 : Int)) etS <| AC h6 <| AG etS h7 <| AD (az g1 h8) <| AN))
    ·refine K8 (fun h7 => ?_) (fun h7 => ?_)
     ·refine K8 (fun h8 => ?_) (fun h8 => ?_)
      ·refine K8 (fun h9 => ?_) (fun h9 => ?_)
       ·exact K5 (K4 (fn := Tryz.f102) [.b false, .b false, .ret [(false, [.s .own () 1 ((an x0 (45 : Int)).map etS)])], .row (etS g0), .ret [(false, [tI ((ab g0).1)]), (false, [tB true])], .val (.int .i64 ((an x0 (45 : Int)).length : Int)), .b false, .val (.int .i64 ((an x0 (45 : Int)).length : Int)), .b true, .b true, .b true] _ rfl (fun _ => rfl) (fun k => by kernel_rfl) (AC h0 <| AC h1 <| AD (aZ x0 (45 : Int) h2 h3) <| AG etS h4 <| AD (az g0 h5) <| ALn (an x0 (45 : Int)) etS <| AC h6 <| ALn (an x0 (45 : Int)) etS <| AC h7 <| AC h8 <| AC h9 <| AN))
       ·exact K5 (K4 (fn := Tryz.f102) [.b false, .b false, .ret [(false, [.s .own () 1 ((an x0 (45 : Int)).map etS)])], .row (etS g0), .ret [(false, [tI ((ab g0).1)]), (false, [tB true])], .val (.int .i64 ((an x0 (45 : Int)).length : Int)), .b false, .val (.int .i64 ((an x0 (45 : Int)).length : Int)), .b true, .b true, .b false] _ rfl (fun _ => rfl) (fun k => by kernel_rfl) (AC h0 <| AC h1 <| AD (aZ x0 (45 : Int) h2 h3) <| AG etS h4 <| AD (az g0 h5) <| ALn (an x0 (45 : Int)) etS <| AC h6 <| ALn (an x0 (45 : Int)) etS <| AC h7 <| AC h8 <| AC h9 <| AN))
      ·exact K5 (K4 (fn := Tryz.f102) [.b false, .b false, .ret [(false, [.s .own () 1 ((an x0 (45 : Int)).map etS)])], .row (etS g0), .ret [(false, [tI ((ab g0).1)]), (false, [tB true])], .val (.int .i64 ((an x0 (45 : Int)).length : Int)), .b false, .val (.int .i64 ((an x0 (45 : Int)).length : Int)), .b true, .b false] _ rfl (fun _ => rfl) (fun k => by kernel_rfl) (AC h0 <| AC h1 <| AD (aZ x0 (45 : Int) h2 h3) <| AG etS h4 <| AD (az g0 h5) <| ALn (an x0 (45 : Int)) etS <| AC h6 <| ALn (an x0 (45 : Int)) etS <| AC h7 <| AC h8 <| AN))
     ·exact K5 (K4 (fn := Tryz.f102) [.b false, .b false, .ret [(false, [.s .own () 1 ((an x0 (45 : Int)).map etS)])], .row (etS g0), .ret [(false, [tI ((ab g0).1)]), (false, [tB true])], .val (.int .i64 ((an x0 (45 : Int)).length : Int)), .b false, .val (.int .i64 ((an x0 (45 : Int)).length : Int)), .b false] _ rfl (fun _ => rfl) (fun k => by kernel_rfl) (AC h0 <| AC h1 <| AD (aZ x0 (45 : Int) h2 h3) <| AG etS h4 <| AD (az g0 h5) <| ALn (an x0 (45 : Int)) etS <| AC h6 <| ALn (an x0 (45 : Int)) etS <| AC h7 <| AN))
   ·refine K8 (fun h6 => ?_) (fun h6 => ?_)
    ·refine K9 (fun g1 h7 => ?_)
     exact K5 (K4 (fn := Tryz.f102) [.b false, .b false, .ret [(false, [.s .own () 1 ((an x0 (45 : Int)).map etS)])], .row (etS g0), .ret [(false, [tI ((ab g0).1)]), (false, [tB false])], .val (.int .i64 ((an x0 (45 : Int)).length : Int)), .b true, .row (etS g1), .ret [(false, [tI ((ab g1).1)]), (false, [tB ((ab g1).2)])]] _ rfl (fun _ => rfl) (fun k => by kernel_rfl) (AC h0 <| AC h1 <| AD (aZ x0 (45 : Int) h2 h3) <| AG etS h4 <| AD (az g0 h5) <| ALn (an x0 (45 : Int)) etS <| AC h6 <| AG etS h7 <| AD (mg g1) <| AN))
    ·exact K5 (K4 (fn := Tryz.f102) [.b false, .b false, .ret [(false, [.s .own () 1 ((an x0 (45 : Int)).map etS)])], .row (etS g0), .ret [(false, [tI ((ab g0).1)]), (false, [tB false])], .val (.int .i64 ((an x0 (45 : Int)).length : Int)), .b false] _ rfl (fun _ => rfl) (fun k => by kernel_rfl) (AC h0 <| AC h1 <| AD (aZ x0 (45 : Int) h2 h3) <| AG etS h4 <| AD (az g0 h5) <| ALn (an x0 (45 : Int)) etS <| AC h6 <| AN))
noncomputable def ld (x0 : ByteArray) (x1 x2 : Int) : Option (Int × Int × Int × Bool) :=
  cond (x0.toList == (⟨#[42]⟩ : ByteArray).toList)
   (some (x1, x2, (1 : Int), true))
   (cond ((bH x0 (⟨#[42, 47]⟩ : ByteArray)).2)
    (cond ((ab ((bH x0 (⟨#[42, 47]⟩ : ByteArray)).1)).2)
     (some (x1, x2, (ab ((bH x0 (⟨#[42, 47]⟩ : ByteArray)).1)).1, decide (((ab ((bH x0 (⟨#[42, 47]⟩ : ByteArray)).1)).1) ≥ (1 : Int))))
     (some (x1, x2, (ab ((bH x0 (⟨#[42, 47]⟩ : ByteArray)).1)).1, false)))
    (if x0.size < 4294967281 then cond ((aL x0 (⟨#[45]⟩ : ByteArray)).2.2)
     (cond ((ab ((aL x0 (⟨#[45]⟩ : ByteArray)).1)).2)
      (cond ((ab ((aL x0 (⟨#[45]⟩ : ByteArray)).2.1)).2)
       (cond (decide (((ab ((aL x0 (⟨#[45]⟩ : ByteArray)).1)).1) ≥ x1))
        (cond (decide (((ab ((aL x0 (⟨#[45]⟩ : ByteArray)).1)).1) ≤ ((ab ((aL x0 (⟨#[45]⟩ : ByteArray)).2.1)).1)))
         (some ((ab ((aL x0 (⟨#[45]⟩ : ByteArray)).1)).1, (ab ((aL x0 (⟨#[45]⟩ : ByteArray)).2.1)).1, (1 : Int), decide (((ab ((aL x0 (⟨#[45]⟩ : ByteArray)).2.1)).1) ≤ x2)))
         (some ((ab ((aL x0 (⟨#[45]⟩ : ByteArray)).1)).1, (ab ((aL x0 (⟨#[45]⟩ : ByteArray)).2.1)).1, (1 : Int), false)))
        (some ((ab ((aL x0 (⟨#[45]⟩ : ByteArray)).1)).1, (ab ((aL x0 (⟨#[45]⟩ : ByteArray)).2.1)).1, (1 : Int), false)))
       (some ((ab ((aL x0 (⟨#[45]⟩ : ByteArray)).1)).1, (ab ((aL x0 (⟨#[45]⟩ : ByteArray)).2.1)).1, (1 : Int), false)))
      (some ((ab ((aL x0 (⟨#[45]⟩ : ByteArray)).1)).1, (ab ((aL x0 (⟨#[45]⟩ : ByteArray)).2.1)).1, (1 : Int), false)))
     (cond ((ab ((aL x0 (⟨#[45]⟩ : ByteArray)).1)).2)
      (cond (decide (((ab ((aL x0 (⟨#[45]⟩ : ByteArray)).1)).1) ≥ x1))
       (cond (decide (((ab ((aL x0 (⟨#[45]⟩ : ByteArray)).1)).1) ≤ ((ab ((aL x0 (⟨#[45]⟩ : ByteArray)).1)).1)))
        (some ((ab ((aL x0 (⟨#[45]⟩ : ByteArray)).1)).1, (ab ((aL x0 (⟨#[45]⟩ : ByteArray)).1)).1, (1 : Int), decide (((ab ((aL x0 (⟨#[45]⟩ : ByteArray)).1)).1) ≤ x2)))
        (some ((ab ((aL x0 (⟨#[45]⟩ : ByteArray)).1)).1, (ab ((aL x0 (⟨#[45]⟩ : ByteArray)).1)).1, (1 : Int), false)))
       (some ((ab ((aL x0 (⟨#[45]⟩ : ByteArray)).1)).1, (ab ((aL x0 (⟨#[45]⟩ : ByteArray)).1)).1, (1 : Int), false)))
      (some ((ab ((aL x0 (⟨#[45]⟩ : ByteArray)).1)).1, (ab ((aL x0 (⟨#[45]⟩ : ByteArray)).1)).1, (1 : Int), false))) else none))
theorem DP (x0 : ByteArray) (x1 x2 : Int) : Ans (ld x0 x1 x2) (fun r => Does E 109 [.one (tS x0), .one (tI x1), .one (tI x2)] [(false, [tI r.1]), (false, [tI r.2.1]), (false, [tI r.2.2.1]), (false, [tB r.2.2.2])]) := by
 unfold ld
 refine K8 (fun h0 => ?_) (fun h0 => ?_)
 ·exact K5 (K4 (fn := Tryz.f109) [.b true] _ rfl (fun _ => rfl) (fun k => by kernel_rfl) (AC h0 <| AN))
 ·refine K8 (fun h1 => ?_) (fun h1 => ?_)
  ·refine K8 (fun h2 => ?_) (fun h2 => ?_)
   ·exact K5 (K4 (fn := Tryz.f109) [.b false, .ret [(false, [tS ((bH x0 (⟨#[42, 47]⟩ : ByteArray)).1)]), (false, [tB true])], .ret [(false, [tI ((ab ((bH x0 (⟨#[42, 47]⟩ : ByteArray)).1)).1)]), (false, [tB true])]] _ rfl (fun _ => rfl) (fun k => by kernel_rfl) (AC h0 <| AD (Lb (rs' := [(false, [tS ((bH x0 (⟨#[42, 47]⟩ : ByteArray)).1)]), (false, [tB true])]) (bD x0 (⟨#[42, 47]⟩ : ByteArray)) (by rw [h1])) <| AD (bm ((bH x0 (⟨#[42, 47]⟩ : ByteArray)).1) h2) <| AN))
   ·exact K5 (K4 (fn := Tryz.f109) [.b false, .ret [(false, [tS ((bH x0 (⟨#[42, 47]⟩ : ByteArray)).1)]), (false, [tB true])], .ret [(false, [tI ((ab ((bH x0 (⟨#[42, 47]⟩ : ByteArray)).1)).1)]), (false, [tB false])]] _ rfl (fun _ => rfl) (fun k => by kernel_rfl) (AC h0 <| AD (Lb (rs' := [(false, [tS ((bH x0 (⟨#[42, 47]⟩ : ByteArray)).1)]), (false, [tB true])]) (bD x0 (⟨#[42, 47]⟩ : ByteArray)) (by rw [h1])) <| AD (bm ((bH x0 (⟨#[42, 47]⟩ : ByteArray)).1) h2) <| AN))
  ·refine La (fun h2 => ?_)
   refine K8 (fun h3 => ?_) (fun h3 => ?_)
   ·refine K8 (fun h4 => ?_) (fun h4 => ?_)
    ·refine K8 (fun h5 => ?_) (fun h5 => ?_)
     ·refine K8 (fun h6 => ?_) (fun h6 => ?_)
      ·refine K8 (fun h7 => ?_) (fun h7 => ?_)
       ·exact K5 (K4 (fn := Tryz.f109) [.b false, .ret [(false, [tS ((bH x0 (⟨#[42, 47]⟩ : ByteArray)).1)]), (false, [tB false])], .ret [(false, [tS ((aL x0 (⟨#[45]⟩ : ByteArray)).1)]), (false, [tS ((aL x0 (⟨#[45]⟩ : ByteArray)).2.1)]), (false, [tB true])], .ret [(false, [tI ((ab ((aL x0 (⟨#[45]⟩ : ByteArray)).1)).1)]), (false, [tB true])], .ret [(false, [tI ((ab ((aL x0 (⟨#[45]⟩ : ByteArray)).2.1)).1)]), (false, [tB true])], .b true, .b true] _ rfl (fun _ => rfl) (fun k => by kernel_rfl) (AC h0 <| AD (Lb (rs' := [(false, [tS ((bH x0 (⟨#[42, 47]⟩ : ByteArray)).1)]), (false, [tB false])]) (bD x0 (⟨#[42, 47]⟩ : ByteArray)) (by rw [h1])) <| AD (Lb (rs' := [(false, [tS ((aL x0 (⟨#[45]⟩ : ByteArray)).1)]), (false, [tS ((aL x0 (⟨#[45]⟩ : ByteArray)).2.1)]), (false, [tB true])]) (dO x0 (⟨#[45]⟩ : ByteArray) h2) (by rw [h3])) <| AD (bm ((aL x0 (⟨#[45]⟩ : ByteArray)).1) h4) <| AD (bm ((aL x0 (⟨#[45]⟩ : ByteArray)).2.1) h5) <| AC h6 <| AC h7 <| AN))
       ·exact K5 (K4 (fn := Tryz.f109) [.b false, .ret [(false, [tS ((bH x0 (⟨#[42, 47]⟩ : ByteArray)).1)]), (false, [tB false])], .ret [(false, [tS ((aL x0 (⟨#[45]⟩ : ByteArray)).1)]), (false, [tS ((aL x0 (⟨#[45]⟩ : ByteArray)).2.1)]), (false, [tB true])], .ret [(false, [tI ((ab ((aL x0 (⟨#[45]⟩ : ByteArray)).1)).1)]), (false, [tB true])], .ret [(false, [tI ((ab ((aL x0 (⟨#[45]⟩ : ByteArray)).2.1)).1)]), (false, [tB true])], .b true, .b false] _ rfl (fun _ => rfl) (fun k => by kernel_rfl) (AC h0 <| AD (Lb (rs' := [(false, [tS ((bH x0 (⟨#[42, 47]⟩ : ByteArray)).1)]), (false, [tB false])]) (bD x0 (⟨#[42, 47]⟩ : ByteArray)) (by rw [h1])) <| AD (Lb (rs' := [(false, [tS ((aL x0 (⟨#[45]⟩ : ByteArray)).1)]), (false, [tS ((aL x0 (⟨#[45]⟩ : ByteArray)).2.1)]), (false, [tB true])]) (dO x0 (⟨#[45]⟩ : ByteArray) h2) (by rw [h3])) <| AD (bm ((aL x0 (⟨#[45]⟩ : ByteArray)).1) h4) <| AD (bm ((aL x0 (⟨#[45]⟩ : ByteArray)).2.1) h5) <| AC h6 <| AC h7 <| AN))
      ·exact K5 (K4 (fn := Tryz.f109) [.b false, .ret [(false, [tS ((bH x0 (⟨#[42, 47]⟩ : ByteArray)).1)]), (false, [tB false])], .ret [(false, [tS ((aL x0 (⟨#[45]⟩ : ByteArray)).1)]), (false, [tS ((aL x0 (⟨#[45]⟩ : ByteArray)).2.1)]), (false, [tB true])], .ret [(false, [tI ((ab ((aL x0 (⟨#[45]⟩ : ByteArray)).1)).1)]), (false, [tB true])], .ret [(false, [tI ((ab ((aL x0 (⟨#[45]⟩ : ByteArray)).2.1)).1)]), (false, [tB true])], .b false] _ rfl (fun _ => rfl) (fun k => by kernel_rfl) (AC h0 <| AD (Lb (rs' := [(false, [tS ((bH x0 (⟨#[42, 47]⟩ : ByteArray)).1)]), (false, [tB false])]) (bD x0 (⟨#[42, 47]⟩ : ByteArray)) (by rw [h1])) <| AD (Lb (rs' := [(false, [tS ((aL x0 (⟨#[45]⟩ : ByteArray)).1)]), (false, [tS ((aL x0 (⟨#[45]⟩ : ByteArray)).2.1)]), (false, [tB true])]) (dO x0 (⟨#[45]⟩ : ByteArray) h2) (by rw [h3])) <| AD (bm ((aL x0 (⟨#[45]⟩ : ByteArray)).1) h4) <| AD (bm ((aL x0 (⟨#[45]⟩ : ByteArray)).2.1) h5) <| AC h6 <| AN))
     ·exact K5 (K4 (fn := Tryz.f109) [.b false, .ret [(false, [tS ((bH x0 (⟨#[42, 47]⟩ : ByteArray)).1)]), (false, [tB false])], .ret [(false, [tS ((aL x0 (⟨#[45]⟩ : ByteArray)).1)]), (false, [tS ((aL x0 (⟨#[45]⟩ : ByteArray)).2.1)]), (false, [tB true])], .ret [(false, [tI ((ab ((aL x0 (⟨#[45]⟩ : ByteArray)).1)).1)]), (false, [tB true])], .ret [(false, [tI ((ab ((aL x0 (⟨#[45]⟩ : ByteArray)).2.1)).1)]), (false, [tB false])]] _ rfl (fun _ => rfl) (fun k => by kernel_rfl) (AC h0 <| AD (Lb (rs' := [(false, [tS ((bH x0 (⟨#[42, 47]⟩ : ByteArray)).1)]), (false, [tB false])]) (bD x0 (⟨#[42, 47]⟩ : ByteArray)) (by rw [h1])) <| AD (Lb (rs' := [(false, [tS ((aL x0 (⟨#[45]⟩ : ByteArray)).1)]), (false, [tS ((aL x0 (⟨#[45]⟩ : ByteArray)).2.1)]), (false, [tB true])]) (dO x0 (⟨#[45]⟩ : ByteArray) h2) (by rw [h3])) <| AD (bm ((aL x0 (⟨#[45]⟩ : ByteArray)).1) h4) <| AD (bm ((aL x0 (⟨#[45]⟩ : ByteArray)).2.1) h5) <| AN))
    ·exact K5 (K4 (fn := Tryz.f109) [.b false, .ret [(false, [tS ((bH x0 (⟨#[42, 47]⟩ : ByteArray)).1)]), (false, [tB false])], .ret [(false, [tS ((aL x0 (⟨#[45]⟩ : ByteArray)).1)]), (false, [tS ((aL x0 (⟨#[45]⟩ : ByteArray)).2.1)]), (false, [tB true])], .ret [(false, [tI ((ab ((aL x0 (⟨#[45]⟩ : ByteArray)).1)).1)]), (false, [tB false])], .ret [(false, [tI ((ab ((aL x0 (⟨#[45]⟩ : ByteArray)).2.1)).1)]), (false, [tB ((ab ((aL x0 (⟨#[45]⟩ : ByteArray)).2.1)).2)])]] _ rfl (fun _ => rfl) (fun k => by kernel_rfl) (AC h0 <| AD (Lb (rs' := [(false, [tS ((bH x0 (⟨#[42, 47]⟩ : ByteArray)).1)]), (false, [tB false])]) (bD x0 (⟨#[42, 47]⟩ : ByteArray)) (by rw [h1])) <| AD (Lb (rs' := [(false, [tS ((aL x0 (⟨#[45]⟩ : ByteArray)).1)]), (false, [tS ((aL x0 (⟨#[45]⟩ : ByteArray)).2.1)]), (false, [tB true])]) (dO x0 (⟨#[45]⟩ : ByteArray) h2) (by rw [h3])) <| AD (bm ((aL x0 (⟨#[45]⟩ : ByteArray)).1) h4) <| AD (qe ((aL x0 (⟨#[45]⟩ : ByteArray)).2.1)) <| AN))
   ·refine K8 (fun h4 => ?_) (fun h4 => ?_)
    ·refine K8 (fun h5 => ?_) (fun h5 => ?_)
     ·refine K8 (fun h6 => ?_) (fun h6 => ?_)
      ·exact K5 (K4 (fn := Tryz.f109) [.b false, .ret [(false, [tS ((bH x0 (⟨#[42, 47]⟩ : ByteArray)).1)]), (false, [tB false])], .ret [(false, [tS ((aL x0 (⟨#[45]⟩ : ByteArray)).1)]), (false, [tS ((aL x0 (⟨#[45]⟩ : ByteArray)).2.1)]), (false, [tB false])], .ret [(false, [tI ((ab ((aL x0 (⟨#[45]⟩ : ByteArray)).1)).1)]), (false, [tB true])], .b true, .b true] _ rfl (fun _ => rfl) (fun k => by kernel_rfl) (AC h0 <| AD (Lb (rs' := [(false, [tS ((bH x0 (⟨#[42, 47]⟩ : ByteArray)).1)]), (false, [tB false])]) (bD x0 (⟨#[42, 47]⟩ : ByteArray)) (by rw [h1])) <| AD (Lb (rs' := [(false, [tS ((aL x0 (⟨#[45]⟩ : ByteArray)).1)]), (false, [tS ((aL x0 (⟨#[45]⟩ : ByteArray)).2.1)]), (false, [tB false])]) (dO x0 (⟨#[45]⟩ : ByteArray) h2) (by rw [h3])) <| AD (bm ((aL x0 (⟨#[45]⟩ : ByteArray)).1) h4) <| AC h5 <| AC h6 <| AN))
      ·exact K5 (K4 (fn := Tryz.f109) [.b false, .ret [(false, [tS ((bH x0 (⟨#[42, 47]⟩ : ByteArray)).1)]), (false, [tB false])], .ret [(false, [tS ((aL x0 (⟨#[45]⟩ : ByteArray)).1)]), (false, [tS ((aL x0 (⟨#[45]⟩ : ByteArray)).2.1)]), (false, [tB false])], .ret [(false, [tI ((ab ((aL x0 (⟨#[45]⟩ : ByteArray)).1)).1)]), (false, [tB true])], .b true, .b false] _ rfl (fun _ => rfl) (fun k => by kernel_rfl) (AC h0 <| AD (Lb (rs' := [(false, [tS ((bH x0 (⟨#[42, 47]⟩ : ByteArray)).1)]), (false, [tB false])]) (bD x0 (⟨#[42, 47]⟩ : ByteArray)) (by rw [h1])) <| AD (Lb (rs' := [(false, [tS ((aL x0 (⟨#[45]⟩ : ByteArray)).1)]), (false, [tS ((aL x0 (⟨#[45]⟩ : ByteArray)).2.1)]), (false, [tB false])]) (dO x0 (⟨#[45]⟩ : ByteArray) h2) (by rw [h3])) <| AD (bm ((aL x0 (⟨#[45]⟩ : ByteArray)).1) h4) <| AC h5 <| AC h6 <| AN))
     ·exact K5 (K4 (fn := Tryz.f109) [.b false, .ret [(false, [tS ((bH x0 (⟨#[42, 47]⟩ : ByteArray)).1)]), (false, [tB false])], .ret [(false, [tS ((aL x0 (⟨#[45]⟩ : ByteArray)).1)]), (false, [tS ((aL x0 (⟨#[45]⟩ : ByteArray)).2.1)]), (false, [tB false])], .ret [(false, [tI ((ab ((aL x0 (⟨#[45]⟩ : ByteArray)).1)).1)]), (false, [tB true])], .b false] _ rfl (fun _ => rfl) (fun k => by kernel_rfl) (AC h0 <| AD (Lb (rs' := [(false, [tS ((bH x0 (⟨#[42, 47]⟩ : ByteArray)).1)]), (false, [tB false])]) (bD x0 (⟨#[42, 47]⟩ : ByteArray)) (by rw [h1])) <| AD (Lb (rs' := [(false, [tS ((aL x0 (⟨#[45]⟩ : ByteArray)).1)]), (false, [tS ((aL x0 (⟨#[45]⟩ : ByteArray)).2.1)]), (false, [tB false])]) (dO x0 (⟨#[45]⟩ : ByteArray) h2) (by rw [h3])) <| AD (bm ((aL x0 (⟨#[45]⟩ : ByteArray)).1) h4) <| AC h5 <| AN))
    ·exact K5 (K4 (fn := Tryz.f109) [.b false, .ret [(false, [tS ((bH x0 (⟨#[42, 47]⟩ : ByteArray)).1)]), (false, [tB false])], .ret [(false, [tS ((aL x0 (⟨#[45]⟩ : ByteArray)).1)]), (false, [tS ((aL x0 (⟨#[45]⟩ : ByteArray)).2.1)]), (false, [tB false])], .ret [(false, [tI ((ab ((aL x0 (⟨#[45]⟩ : ByteArray)).1)).1)]), (false, [tB false])]] _ rfl (fun _ => rfl) (fun k => by kernel_rfl) (AC h0 <| AD (Lb (rs' := [(false, [tS ((bH x0 (⟨#[42, 47]⟩ : ByteArray)).1)]), (false, [tB false])]) (bD x0 (⟨#[42, 47]⟩ : ByteArray)) (by rw [h1])) <| AD (Lb (rs' := [(false, [tS ((aL x0 (⟨#[45]⟩ : ByteArray)).1)]), (false, [tS ((aL x0 (⟨#[45]⟩ : ByteArray)).2.1)]), (false, [tB false])]) (dO x0 (⟨#[45]⟩ : ByteArray) h2) (by rw [h3])) <| AD (bm ((aL x0 (⟨#[45]⟩ : ByteArray)).1) h4) <| AN))
def tE (r : Int × Int × Int × Bool) (o : Option (Int × Int × Int)) : Prop :=
 match o with | some (a, b, c) => r = (a, b, c, true) | none => r.2.2.2 = false
noncomputable def rE (ps : List (List UInt8)) (lo hi : Int) : Option (Int × Int × Int) :=
 match ps with
 | [p] => if (ab (ofTx p)).2 = true ∧ lo ≤ (ab (ofTx p)).1 ∧ (ab (ofTx p)).1 ≤ hi then some ((ab (ofTx p)).1, (ab (ofTx p)).1, 1) else none
 | [p, q] => if (ab (ofTx p)).2 = true ∧ (ab (ofTx q)).2 = true ∧ lo ≤ (ab (ofTx p)).1 ∧ (ab (ofTx p)).1 ≤ (ab (ofTx q)).1 ∧ (ab (ofTx q)).1 ≤ hi then some ((ab (ofTx p)).1, (ab (ofTx q)).1, 1) else none
 | _ => none
theorem wB (p : List UInt8) (lo hi : Int) : rE [p] lo hi = if (ab (ofTx p)).2 = true ∧ lo ≤ (ab (ofTx p)).1 ∧ (ab (ofTx p)).1 ≤ hi then some ((ab (ofTx p)).1, (ab (ofTx p)).1, 1) else none := rfl
theorem Cn (p q : List UInt8) (lo hi : Int) : rE [p, q] lo hi = if (ab (ofTx p)).2 = true ∧ (ab (ofTx q)).2 = true ∧ lo ≤ (ab (ofTx p)).1 ∧ (ab (ofTx p)).1 ≤ (ab (ofTx q)).1 ∧ (ab (ofTx q)).1 ≤ hi then some ((ab (ofTx p)).1, (ab (ofTx q)).1, 1) else none := rfl
theorem Co (p q r : List UInt8) (l : List (List UInt8)) (lo hi : Int) : rE (p :: q :: r :: l) lo hi = none := rfl
noncomputable def sB (s : ByteArray) (lo hi : Int) : Option (Int × Int × Int) :=
 if tx s = [42] then some (lo, hi, 1)
 else if [42, 47].isPrefixOf (tx s) = true then
  (if (ab (ofTx ((tx s).drop 2))).2 = true ∧ 1 ≤ (ab (ofTx ((tx s).drop 2))).1 then some (lo, hi, (ab (ofTx ((tx s).drop 2))).1) else none)
 else rE (bK 45 (tx s)) lo hi
noncomputable def cG (s : ByteArray) (lo hi : Int) : Int × Int × Int × Bool := (kg s lo hi).getD (0, 0, 0, false)
noncomputable def cF (s : ByteArray) (lo hi : Int) : Int × Int × Int × Bool := (ld s lo hi).getD (0, 0, 0, false)
theorem Cp {o : Option (Int × Int × Int × Bool)} {p : Option (Int × Int × Int)} {d : Int × Int × Int × Bool} (h : ∃ r, o = some r ∧ tE r p) : o = some (o.getD d) ∧ tE (o.getD d) p := by
 obtain ⟨r, rfl, h⟩ := h
 exact ⟨rfl, h⟩
theorem Hs (L : List ByteArray) (ps : List (List UInt8)) (hL : L = ps.map ofTx) (lo hi : Int) (hne : ∃ x xs, ps = x :: xs) :
  ∃ r, ((aI L (0 : Int)).bind fun g0 => cond ((ab g0).2)
     (cond ((L.length : Int) == (2 : Int))
      ((aI L (1 : Int)).bind fun g1 => cond ((ab g1).2)
       (cond (decide ((L.length : Int) ≤ (2 : Int)))
        (cond (decide (lo ≤ ((ab g0).1)))
         (cond (decide (((ab g0).1) ≤ ((ab g1).1)))
          (some ((ab g0).1, (ab g1).1, (1 : Int), decide (((ab g1).1) ≤ hi)))
          (some ((ab g0).1, (ab g1).1, (1 : Int), false)))
         (some ((ab g0).1, (ab g1).1, (1 : Int), false)))
        (some ((ab g0).1, (ab g1).1, (1 : Int), false)))
       (some ((ab g0).1, (ab g1).1, (1 : Int), false)))
      (cond (decide ((L.length : Int) ≤ (2 : Int)))
       (cond (decide (lo ≤ ((ab g0).1)))
        (cond (decide (((ab g0).1) ≤ ((ab g0).1)))
         (some ((ab g0).1, (ab g0).1, (1 : Int), decide (((ab g0).1) ≤ hi)))
         (some ((ab g0).1, (ab g0).1, (1 : Int), false)))
        (some ((ab g0).1, (ab g0).1, (1 : Int), false)))
       (some ((ab g0).1, (ab g0).1, (1 : Int), false))))
     (cond ((L.length : Int) == (2 : Int))
      ((aI L (1 : Int)).bind fun g1 => some ((ab g0).1, (ab g1).1, (1 : Int), false))
      (some ((ab g0).1, (ab g0).1, (1 : Int), false)))) = some r ∧ tE r (rE ps lo hi) := by
 subst hL
 match ps, hne with
 | [p], _ =>
  have g0 : aI ([p].map ofTx) 0 = some (ofTx p) := rfl
  have e1 : ((([p].map ofTx).length : Int) == 2) = false := rfl
  have e2 : decide ((([p].map ofTx).length : Int) ≤ 2) = true := rfl
  rw [g0, e1, e2, wB, Option.bind_some]
  simp only [cond_true, cond_false]
  generalize ab (ofTx p) = a
  obtain ⟨a, b⟩ := a
  cases b with
  | false => exact ⟨_, rfl, by rw [if_neg (by simp)]; exact rfl⟩
  | true =>
   rw [cond_true]
   by_cases h1 : lo ≤ a
   ·rw [decide_eq_true h1, cond_true, decide_eq_true (Int.le_refl _), cond_true]
    refine ⟨_, rfl, ?_⟩
    by_cases h2 : a ≤ hi
    ·rw [decide_eq_true h2, if_pos ⟨rfl, h1, h2⟩]; exact rfl
    ·rw [decide_eq_false h2, if_neg (fun h => h2 h.2.2)]; exact rfl
   ·rw [decide_eq_false h1]
    exact ⟨_, rfl, by rw [if_neg (fun h => h1 h.2.1)]; exact rfl⟩
 | [p, q], _ =>
  have g0 : aI ([p, q].map ofTx) 0 = some (ofTx p) := rfl
  have g1 : aI ([p, q].map ofTx) 1 = some (ofTx q) := rfl
  have e1 : ((([p, q].map ofTx).length : Int) == 2) = true := rfl
  have e2 : decide ((([p, q].map ofTx).length : Int) ≤ 2) = true := rfl
  rw [g0, g1, e1, e2, Cn, Option.bind_some, Option.bind_some]
  simp only [cond_true, cond_false]
  generalize ab (ofTx p) = a
  generalize ab (ofTx q) = c
  obtain ⟨a, b⟩ := a
  obtain ⟨c, d⟩ := c
  cases b with
  | false => exact ⟨_, rfl, by rw [if_neg (by simp)]; exact rfl⟩
  | true =>
   cases d with
   | false => exact ⟨_, rfl, by rw [if_neg (by simp)]; exact rfl⟩
   | true =>
    rw [cond_true, cond_true]
    by_cases h1 : lo ≤ a
    ·rw [decide_eq_true h1, cond_true]
     by_cases h3 : a ≤ c
     ·rw [decide_eq_true h3, cond_true]
      refine ⟨_, rfl, ?_⟩
      by_cases h2 : c ≤ hi
      ·rw [decide_eq_true h2, if_pos ⟨rfl, rfl, h1, h3, h2⟩]; exact rfl
      ·rw [decide_eq_false h2, if_neg (fun h => h2 h.2.2.2.2)]; exact rfl
     ·rw [decide_eq_false h3]
      exact ⟨_, rfl, by rw [if_neg (fun h => h3 h.2.2.2.1)]; exact rfl⟩
    ·rw [decide_eq_false h1]
     exact ⟨_, rfl, by rw [if_neg (fun h => h1 h.2.2.1)]; exact rfl⟩
 | p :: q :: t :: ps, _ =>
  have e1 : ((((p :: q :: t :: ps).map ofTx).length : Int) == 2) = false := by rw [beq_eq_false_iff_ne]; simp; omega
  have e2 : decide ((((p :: q :: t :: ps).map ofTx).length : Int) ≤ 2) = false := decide_eq_false (by simp; omega)
  rw [e1, e2, Co]
  have g0 : aI ((p :: q :: t :: ps).map ofTx) 0 = some (ofTx p) := rfl
  rw [g0, Option.bind_some]
  cases (ab (ofTx p)).2 with
  | false => exact ⟨_, rfl, rfl⟩
  | true => exact ⟨_, rfl, rfl⟩
theorem zA (s : ByteArray) (lo hi : Int) (hs : s.size ≤ 2000000) : kg s lo hi = some (cG s lo hi) ∧ tE (cG s lo hi) (sB s lo hi) := by
 refine Cp ?_
 unfold kg sB
 have e42 : tx (⟨#[42]⟩ : ByteArray) = [42] := rfl
 have e4247 : tx (⟨#[42, 47]⟩ : ByteArray) = [42, 47] := rfl
 rw [ja, e42]
 by_cases h : tx s = [42]
 ·rw [decide_eq_true h, if_pos h]; exact ⟨_, rfl, rfl⟩
 ·have hp : (s.size ≤ 2000000) = True := eq_true hs
  have hc : ((0 : Int) ≤ 45 ∧ (45 : Int) < 256) = True := eq_true (by decide)
  have hL : an s 45 = (bK 45 (tx s)).map ofTx := rfl
  have tl := Hs (an s 45) (bK 45 (tx s)) hL lo hi (gw _ _)
  rw [decide_eq_false h, if_neg h, cond_false]
  simp only [hp, hc, if_true]
  have hz := bM s
  by_cases h2 : 2 < s.size
  ·rw [decide_eq_true (by omega), cond_true, if_pos (by omega), ja, e4247, xV]
   have hpre : [42, 47].isPrefixOf (tx s) = decide (seg (tx s) (0 : Int).toNat (2 : Int).toNat = [42, 47]) := by
    obtain ⟨a, b, l, e⟩ : ∃ a b l, tx s = a :: b :: l := by
     cases q : tx s with
     | nil => rw [q] at hz; have : s.size = 0 := hz; omega
     | cons a l =>
      cases l with
      | nil => rw [q] at hz; have : s.size = 1 := hz; omega
      | cons b l => exact ⟨a, b, l, rfl⟩
    have : seg (a :: b :: l) (0 : Int).toNat (2 : Int).toNat = [a, b] := by simp [seg]
    have sw : ∀ x y : UInt8, (x == y) = decide (y = x) := fun x y => by
     by_cases h : y = x
     ·subst h; simp
     ·rw [decide_eq_false h, beq_eq_false_iff_ne]; exact fun e => h e.symm
    rw [e, this]
    simp [List.isPrefixOf, sw]
   rw [hpre]
   have hx : s.extract (2 : Int).toNat (s.size : Int).toNat = ofTx ((tx s).drop 2) := by
    rw [k9]
    unfold seg
    rw [List.take_of_length_le (by omega)]; rfl
   by_cases q : seg (tx s) (0 : Int).toNat (2 : Int).toNat = [42, 47]
   ·rw [decide_eq_true q, cond_true, if_pos rfl, if_pos (by omega), hx]
    generalize ab (ofTx ((tx s).drop 2)) = a
    obtain ⟨a, b⟩ := a
    cases b with
    | false => exact ⟨_, rfl, by rw [if_neg (by simp)]; exact rfl⟩
    | true =>
     refine ⟨_, rfl, ?_⟩
     by_cases z : 1 ≤ a
     ·rw [decide_eq_true (show a ≥ 1 from z), if_pos ⟨rfl, z⟩]; exact rfl
     ·rw [decide_eq_false (show ¬ a ≥ 1 from z), if_neg (fun h => z h.2)]; exact rfl
   ·rw [decide_eq_false q, cond_false, if_neg (by simp)]
    exact tl
  ·rw [decide_eq_false (by omega), cond_false]
   by_cases q : [42, 47].isPrefixOf (tx s) = true
   ·rw [if_pos q]
    have e : tx s = [42, 47] := by
     cases w : tx s with
     | nil => rw [w] at q; simp [List.isPrefixOf] at q
     | cons a l =>
      cases l with
      | nil => rw [w] at q; simp [List.isPrefixOf] at q
      | cons b l =>
       cases l with
       | nil => rw [w] at q; simp [List.isPrefixOf] at q; rw [← q.1, ← q.2]
       | cons c l => rw [w] at hz; simp at hz; omega
    have hb : (ab (ofTx ((tx s).drop 2))) = (0, false) := by
     rw [e]
     show ab (ofTx []) = _
     unfold ab
     rw [if_neg (by decide)]
     have : ¬ tx (ak 0) = tx (ofTx []) := by
      unfold ak Lib.itoa
      rw [if_neg (by omega), Lib.decDigits, dif_pos (by simp)]
      simp [tx, ofTx]
     show (if (1000000000 : Int) < 0 then _ else if _ then _ else _) = _
     rw [if_neg (by decide), if_neg this]
    rw [hb, if_neg (by simp)]
    obtain ⟨r, h1, h2⟩ := tl
    refine ⟨r, h1, ?_⟩
    rw [e] at h2
    have hcut : bK 45 ([42, 47] : List UInt8) = [[42, 47]] := rf (by decide)
    rw [hcut, wB] at h2
    have hb2 : ab (ofTx [42, 47]) = (0, false) := vN (b := 42) (by rw [jx]; simp) (by decide)
    simp only [hb2] at h2
    rw [if_neg (by simp)] at h2
    exact h2
   ·rw [if_neg q]
    exact tl
theorem zy (s : ByteArray) (lo hi : Int) (hs : s.size ≤ 2000000) : ld s lo hi = some (cF s lo hi) ∧ tE (cF s lo hi) (sB s lo hi) := by
 refine Cp ?_
 unfold ld sB
 have e42 : tx (⟨#[42]⟩ : ByteArray) = [42] := rfl
 rw [ja, e42]
 by_cases h : tx s = [42]
 ·rw [decide_eq_true h, if_pos h]; exact ⟨_, rfl, rfl⟩
 ·rw [decide_eq_false h, if_neg h, cond_false]
  have hp2 : (bH s (⟨#[42, 47]⟩ : ByteArray)).2 = [42, 47].isPrefixOf (tx s) := rfl
  rw [hp2]
  by_cases q : [42, 47].isPrefixOf (tx s) = true
  ·have hp1 : (bH s (⟨#[42, 47]⟩ : ByteArray)).1 = ofTx ((tx s).drop 2) := by
    show ofTx (Lib.trimPrefix (tx s) [42, 47]) = _
    unfold Lib.trimPrefix Lib.hasPrefix
    rw [if_pos q]; rfl
   rw [q, cond_true, if_pos rfl, hp1]
   generalize ab (ofTx ((tx s).drop 2)) = a
   obtain ⟨a, b⟩ := a
   cases b with
   | false => exact ⟨_, rfl, by rw [if_neg (by simp)]; exact rfl⟩
   | true =>
    refine ⟨_, rfl, ?_⟩
    by_cases z : 1 ≤ a
    ·rw [decide_eq_true (show a ≥ 1 from z), if_pos ⟨rfl, z⟩]; exact rfl
    ·rw [decide_eq_false (show ¬ a ≥ 1 from z), if_neg (fun h => z h.2)]; exact rfl
  ·rw [if_neg q]
   rw [Bool.not_eq_true] at q
   rw [q, cond_false, if_pos (by omega)]
   rcases Bg (tx s) 45 with ⟨h1, h2, h3⟩ | ⟨a, b, h1, h2, h3, h4⟩
   ·have c1 : aL s (⟨#[45]⟩ : ByteArray) = (s, ofTx [], false) := by
     show (ofTx (Lib.cut (tx s) [45]).1, ofTx (Lib.cut (tx s) [45]).2.1, (Lib.cut (tx s) [45]).2.2) = _
     rw [h2]; rfl
    rw [c1, h3, wB]
    simp only [cond_false]
    rw [rC]
    generalize ab s = a
    obtain ⟨a, b⟩ := a
    cases b with
    | false => exact ⟨_, rfl, by rw [if_neg (by simp)]; exact rfl⟩
    | true =>
     rw [cond_true]
     by_cases h1 : lo ≤ a
     ·rw [decide_eq_true (show a ≥ lo from h1), cond_true, decide_eq_true (Int.le_refl _), cond_true]
      refine ⟨_, rfl, ?_⟩
      by_cases h2 : a ≤ hi
      ·rw [decide_eq_true h2, if_pos ⟨rfl, h1, h2⟩]; exact rfl
      ·rw [decide_eq_false h2, if_neg (fun h => h2 h.2.2)]; exact rfl
     ·rw [decide_eq_false (show ¬ a ≥ lo from h1)]
      exact ⟨_, rfl, by rw [if_neg (fun h => h1 h.2.1)]; exact rfl⟩
   ·have c1 : aL s (⟨#[45]⟩ : ByteArray) = (ofTx a, ofTx b, true) := by
     show (ofTx (Lib.cut (tx s) [45]).1, ofTx (Lib.cut (tx s) [45]).2.1, (Lib.cut (tx s) [45]).2.2) = _
     rw [h3]
    rw [c1, h4]
    simp only [cond_true]
    by_cases hb : (45 : UInt8) ∈ b
    ·have hr : ab (ofTx b) = (0, false) := vN (b := 45) (by rw [jx]; exact hb) (by decide)
     have hm : ∃ x y z, bK 45 b = x :: y :: z := by
      rcases Bg b 45 with ⟨g, _⟩ | ⟨c, d, _, _, _, g⟩
      ·exact absurd hb g
      ·obtain ⟨y, z, e⟩ := gw 45 d
       exact ⟨c, y, z, by rw [g, e]⟩
     obtain ⟨x, y, z, e⟩ := hm
     rw [e, hr, Co]
     cases (ab (ofTx a)).2 with
     | false => exact ⟨_, rfl, rfl⟩
     | true => exact ⟨_, rfl, rfl⟩
    ·rw [rf hb, Cn]
     generalize ab (ofTx a) = a
     generalize ab (ofTx b) = c
     obtain ⟨a, b⟩ := a
     obtain ⟨c, d⟩ := c
     cases b with
     | false => exact ⟨_, rfl, by rw [if_neg (by simp)]; exact rfl⟩
     | true =>
      cases d with
      | false => exact ⟨_, rfl, by rw [if_neg (by simp)]; exact rfl⟩
      | true =>
       rw [cond_true, cond_true]
       by_cases h1 : lo ≤ a
       ·rw [decide_eq_true (show a ≥ lo from h1), cond_true]
        by_cases h3 : a ≤ c
        ·rw [decide_eq_true h3, cond_true]
         refine ⟨_, rfl, ?_⟩
         by_cases h2 : c ≤ hi
         ·rw [decide_eq_true h2, if_pos ⟨rfl, rfl, h1, h3, h2⟩]; exact rfl
         ·rw [decide_eq_false h2, if_neg (fun h => h2 h.2.2.2.2)]; exact rfl
        ·rw [decide_eq_false h3]
         exact ⟨_, rfl, by rw [if_neg (fun h => h3 h.2.2.2.1)]; exact rfl⟩
       ·rw [decide_eq_false (show ¬ a ≥ lo from h1)]
        exact ⟨_, rfl, by rw [if_neg (fun h => h1 h.2.2.1)]; exact rfl⟩
theorem Iz {s : ByteArray} {lo hi a b c : Int} (hlo : lo ≤ hi) (h : sB s lo hi = some (a, b, c)) : lo ≤ a ∧ a ≤ b ∧ b ≤ hi ∧ 1 ≤ c ∧ c ≤ 1000000000 := by
 unfold sB at h
 split at h
 ·cases h; exact ⟨Int.le_refl _, hlo, Int.le_refl _, Int.le_refl _, by decide⟩
 ·split at h
  ·split at h
   ·rename_i z
    have := F4 (ofTx ((tx s).drop 2))
    cases h
    exact ⟨Int.le_refl _, hlo, Int.le_refl _, z.2, this.2⟩
   ·cases h
  ·unfold rE at h
   split at h
   ·split at h
    ·rename_i z; cases h; exact ⟨z.2.1, Int.le_refl _, z.2.2, Int.le_refl _, by decide⟩
    ·cases h
   ·split at h
    ·rename_i z; cases h; exact ⟨z.2.2.1, z.2.2.2.1, z.2.2.2.2, Int.le_refl _, by decide⟩
    ·cases h
   ·cases h
theorem A4 (x0 : ByteArray) (x1 : Int) (x2 : Int) (h : x0.size ≤ 2000000) : Does E 102 [.one (tS x0), .one (tI x1), .one (tI x2)] [(false, [tI ((cG x0 x1 x2).1)]), (false, [tI ((cG x0 x1 x2).2.1)]), (false, [tI ((cG x0 x1 x2).2.2.1)]), (false, [tB ((cG x0 x1 x2).2.2.2)])] := by
 exact CO x0 x1 x2 _ (zA x0 x1 x2 h).1
theorem qZ (x0 : ByteArray) (x1 : Int) (x2 : Int) (h : x0.size ≤ 2000000) {bb : Bool} (hbb : (cG x0 x1 x2).2.2.2 = bb) : Does E 102 [.one (tS x0), .one (tI x1), .one (tI x2)] [(false, [tI ((cG x0 x1 x2).1)]), (false, [tI ((cG x0 x1 x2).2.1)]), (false, [tI ((cG x0 x1 x2).2.2.1)]), (false, [tB bb])] := by rw [← hbb]; exact A4 x0 x1 x2 h
theorem Dh (x0 : ByteArray) (x1 : Int) (x2 : Int) (h : x0.size ≤ 2000000) : Does E 109 [.one (tS x0), .one (tI x1), .one (tI x2)] [(false, [tI ((cF x0 x1 x2).1)]), (false, [tI ((cF x0 x1 x2).2.1)]), (false, [tI ((cF x0 x1 x2).2.2.1)]), (false, [tB ((cF x0 x1 x2).2.2.2)])] := by
 exact DP x0 x1 x2 _ (zy x0 x1 x2 h).1
theorem sR (x0 : ByteArray) (x1 : Int) (x2 : Int) (h : x0.size ≤ 2000000) {bb : Bool} (hbb : (cF x0 x1 x2).2.2.2 = bb) : Does E 109 [.one (tS x0), .one (tI x1), .one (tI x2)] [(false, [tI ((cF x0 x1 x2).1)]), (false, [tI ((cF x0 x1 x2).2.1)]), (false, [tI ((cF x0 x1 x2).2.2.1)]), (false, [tB bb])] := by rw [← hbb]; exact Dh x0 x1 x2 h
noncomputable def kx (x0 : Int) : Option (Int × Int) :=
  cond (x0 == (0 : Int))
   (some ((0 : Int), (59 : Int)))
   (cond (x0 == (1 : Int))
    (some ((0 : Int), (23 : Int)))
    (cond (x0 == (2 : Int))
     (some ((1 : Int), (31 : Int)))
     (cond (x0 == (3 : Int))
      (some ((1 : Int), (12 : Int)))
      (some ((0 : Int), (6 : Int))))))
theorem FK (x0 : Int) : Ans (kx x0) (fun r => Does E 108 [.one (tI x0)] [(false, [tI r.1]), (false, [tI r.2])]) := by
 unfold kx
 refine K8 (fun h0 => ?_) (fun h0 => ?_)
 ·exact K5 (K4 (fn := Tryz.f108) [.b true] _ rfl (fun _ => rfl) (fun k => by kernel_rfl) (AC h0 <| AN))
 ·refine K8 (fun h1 => ?_) (fun h1 => ?_)
  ·exact K5 (K4 (fn := Tryz.f108) [.b false, .b true] _ rfl (fun _ => rfl) (fun k => by kernel_rfl) (AC h0 <| AC h1 <| AN))
  ·refine K8 (fun h2 => ?_) (fun h2 => ?_)
   ·exact K5 (K4 (fn := Tryz.f108) [.b false, .b false, .b true] _ rfl (fun _ => rfl) (fun k => by kernel_rfl) (AC h0 <| AC h1 <| AC h2 <| AN))
   ·refine K8 (fun h3 => ?_) (fun h3 => ?_)
    ·exact K5 (K4 (fn := Tryz.f108) [.b false, .b false, .b false, .b true] _ rfl (fun _ => rfl) (fun k => by kernel_rfl) (AC h0 <| AC h1 <| AC h2 <| AC h3 <| AN))
    ·exact K5 (K4 (fn := Tryz.f108) [.b false, .b false, .b false, .b false] _ rfl (fun _ => rfl) (fun k => by kernel_rfl) (AC h0 <| AC h1 <| AC h2 <| AC h3 <| AN))
noncomputable def aF (i : Int) : Int × Int := (kx i).getD (0, 0)
theorem Fb (i : Int) : kx i = some (aF i) := by
 refine Tot.getD ?_ _
 unfold kx
 repeat' (first | exact Tot.some _ | apply Tot.cond)
theorem Gs (i : Int) : 0 ≤ (aF i).1 ∧ (aF i).1 ≤ (aF i).2 ∧ (aF i).2 ≤ 59 := by
 unfold aF kx
 cases i == 0 <;> cases i == 1 <;> cases i == 2 <;> cases i == 3 <;> exact ⟨by decide, by decide, by decide⟩
theorem bW (x0 : Int) : Does E 108 [.one (tI x0)] [(false, [tI ((aF x0).1)]), (false, [tI ((aF x0).2)])] := by
 exact FK x0 _ (Fb x0)
inductive tp where
 | x4 (v16 : List Int)
def gB (v2 : Int) (v8 : List Bool) (v16 : List Int) (v17 : Int) : US := stL 70 [(2, .one (tI v2)), (8, .one (.s .own () 1 (v8.map etB))), (16, .one (.s .own () 1 (v16.map etI))), (17, .one (tI v17))]
def mV (zv16 : List Int) : US := stL 70 [(16, .one (.s .own () 1 (zv16.map etI)))]
abbrev oI : US → Exit → US → Prop := Round E 77 (ax Tryz.f77 2)
def Av (v2 : Int) (v8 : List Bool) (v16 : List Int) (v17 : Int) : tp → Prop
 | .x4 zv16 => Loops E 77 (ax Tryz.f77 2) (gB v2 v8 v16 v17) (.exit 4) (mV zv16)
noncomputable def eL (v2 : Int) (v8 : List Bool) : Nat → (List Int) → Int → Option tp
 | 0, _, _ => none
 | n + 1, v16, v17 => cond (decide (v17 ≤ v2))
  ((aI v8 v17).bind fun g0 => cond (g0)
   (if (v16.length + ([v17]).length) * 8 ≤ 140737488355328 ∧ v16.length + ([v17]).length ≤ 4611686018427387904 then eL v2 v8 n (v16 ++ ([v17])) (inc v17) else none)
   (eL v2 v8 n v16 (inc v17)))
  (some (.x4 v16))
theorem As (v2 : Int) (v8 : List Bool) (n : Nat) : ∀ (v16 : List Int) (v17 : Int), Ans (eL v2 v8 n v16 v17) (Av v2 v8 v16 v17) := by
 induction n with
 | zero => intros; exact Ans.none
 | succ n ih =>
  intro v16 v17
  unfold eL
  refine K8 (fun h0 => ?_) (fun h0 => ?_)
  ·refine K9 (fun g0 h1 => ?_)
   refine K8 (fun h2 => ?_) (fun h2 => ?_)
   ·refine La (fun h3 => ?_)
    have r : oI (gB v2 v8 v16 v17) .normal (gB v2 v8 (v16 ++ ([v17])) (inc v17)) := K3 [.b true, .row ([tB true]), .rows ((v16 ++ ([v17])).map etI)] _ (fun k => by kernel_rfl) (AC h0 <| AC (p := 0 ≤ v17 ∧ v17 < ((v8.map etB).length : Int)) (jA h1) <| AC (p := (v8.map etB)[0 + v17.toNat]? = some ([tB true])) ((eH h1).trans (congrArg some (show [tB g0] = [tB true] by rw [h2]))) <| AAp etI (fun _ => rfl) h3 <| AN); exact (ih (v16 ++ ([v17])) (inc v17)).mono fun y hy => by cases y <;> exact K6 r hy
   ·have r : oI (gB v2 v8 v16 v17) .normal (gB v2 v8 v16 (inc v17)) := K3 [.b true, .row ([tB false])] _ (fun k => by kernel_rfl) (AC h0 <| AC (p := 0 ≤ v17 ∧ v17 < ((v8.map etB).length : Int)) (jA h1) <| AC (p := (v8.map etB)[0 + v17.toNat]? = some ([tB false])) ((eH h1).trans (congrArg some (show [tB g0] = [tB false] by rw [h2]))) <| AN); exact (ih v16 (inc v17)).mono fun y hy => by cases y <;> exact K6 r hy
  ·exact K5 (K7 (show oI (gB v2 v8 v16 v17) (.exit 4) (mV v16) from K3 [.b false] _ (fun k => by kernel_rfl) (AC h0 <| AN)) (by intro h; cases h))
inductive tn where
 | x2 (v8 : List Bool)
def lz (v1 v2 : Int) (v8 : List Bool) (v9 : List ByteArray) (v10 v12 v13 v15 : Int) : US := stL 70 [(1, .one (tI v1)), (2, .one (tI v2)), (8, .one (.s .own () 1 (v8.map etB))), (9, .one (.s .own () 1 (v9.map etS))), (10, .one (tI v10)), (12, .one (tI v12)), (13, .one (tI v13)), (15, .one (tI v15))]
def mU (v1 v2 : Int) (v9 : List ByteArray) (v10 : Int) (zv8 : List Bool) : US := stL 70 [(1, .one (tI v1)), (2, .one (tI v2)), (8, .one (.s .own () 1 (zv8.map etB))), (9, .one (.s .own () 1 (v9.map etS))), (10, .one (tI v10))]
abbrev th : US → Exit → US → Prop := Round E 77 (ax Tryz.f77 1)
def Au (v1 v2 : Int) (v8 : List Bool) (v9 : List ByteArray) (v10 v12 v13 v15 : Int) : tn → Prop
 | .x2 zv8 => Loops E 77 (ax Tryz.f77 1) (lz v1 v2 v8 v9 v10 v12 v13 v15) (.exit 2) (mU v1 v2 v9 v10 zv8)
noncomputable def gC (v12 v13 : Int) : Nat → (List Bool) → Int → Option tn
 | 0, _, _ => none
 | n + 1, v8, v15 => cond (decide (v15 ≤ v12))
  ((aI v8 v15).bind fun g0 => gC v12 v13 n (v8.set v15.toNat true) (IntKind.wrap .i64 (v15 + v13)))
  (some (.x2 v8))
theorem Ar (v1 v2 : Int) (v9 : List ByteArray) (v10 v12 v13 : Int) (n : Nat) : ∀ (v8 : List Bool) (v15 : Int), Ans (gC v12 v13 n v8 v15) (Au v1 v2 v8 v9 v10 v12 v13 v15) := by
 induction n with
 | zero => intros; exact Ans.none
 | succ n ih =>
  intro v8 v15
  unfold gC
  refine K8 (fun h0 => ?_) (fun h0 => ?_)
  ·refine K9 (fun g0 h1 => ?_)
   have r : th (lz v1 v2 v8 v9 v10 v12 v13 v15) .normal (lz v1 v2 (v8.set v15.toNat true) v9 v10 v12 v13 (IntKind.wrap .i64 (v15 + v13))) := K3 [.b true, .row (etB g0), .rows ((v8.set v15.toNat true).map etB)] _ (fun k => by kernel_rfl) (AC h0 <| AG etB h1 <| AC (p := (v8.map etB).set (0 + v15.toNat) (ay (etB g0) 0 [tB true]) = (v8.set v15.toNat true).map etB) (ea (by rfl)) <| AN); exact (ih (v8.set v15.toNat true) (IntKind.wrap .i64 (v15 + v13))).mono fun y hy => by cases y <;> exact K6 r hy
  ·exact K5 (K7 (show th (lz v1 v2 v8 v9 v10 v12 v13 v15) (.exit 2) (mU v1 v2 v9 v10 v8) from K3 [.b false] _ (fun k => by kernel_rfl) (AC h0 <| AN)) (by intro h; cases h))
inductive tj where
 | ret (v6 : List Int) (v7 : Bool)
 | x0 (v8 : List Bool)
def gA (v1 v2 : Int) (v8 : List Bool) (v9 : List ByteArray) (v10 : Int) : US := stL 70 [(1, .one (tI v1)), (2, .one (tI v2)), (8, .one (.s .own () 1 (v8.map etB))), (9, .one (.s .own () 1 (v9.map etS))), (10, .one (tI v10))]
def lQ (zv6 : List Int) (zv7 : Bool) : US := stL 70 [(6, .one (.s .own () 1 (zv6.map etI))), (7, .one (tB zv7))]
def mT (v1 v2 : Int) (zv8 : List Bool) : US := stL 70 [(1, .one (tI v1)), (2, .one (tI v2)), (8, .one (.s .own () 1 (zv8.map etB)))]
abbrev oH : US → Exit → US → Prop := Round E 77 (ax Tryz.f77 0)
def At (v1 v2 : Int) (v8 : List Bool) (v9 : List ByteArray) (v10 : Int) : tj → Prop
 | .ret zv6 zv7 => Loops E 77 (ax Tryz.f77 0) (gA v1 v2 v8 v9 v10) .ret (lQ zv6 zv7)
 | .x0 zv8 => Loops E 77 (ax Tryz.f77 0) (gA v1 v2 v8 v9 v10) (.exit 0) (mT v1 v2 zv8)
noncomputable def dR (v1 v2 : Int) : List ByteArray → Nat → (List Bool) → Option tj
 | [], i, v8 => some (.x0 v8)
 | hd :: rest, i, v8 => if hd.size ≤ 2000000 then cond ((cG hd v1 v2).2.2.2)
  ((gC ((cG hd v1 v2).2.1) ((cG hd v1 v2).2.2.1) 9223372036854775808 v8 ((cG hd v1 v2).1)).bind fun y => match y with
   | .x2 w0_8 => (dR v1 v2 rest (i + 1) w0_8))
  (some (.ret ([]) false)) else none
theorem Aq (v1 v2 : Int) (v9 : List ByteArray) (rest : List ByteArray) : ∀ (i : Nat) (v8 : List Bool), (v9).drop i = rest → v9.length ≤ 9223372036854775807 → Ans (dR v1 v2 rest i v8) (At v1 v2 v8 v9 (i : Int)) := by
 induction rest with
 | nil =>
  intro i v8 hE hl
  have hb := bh hE
  unfold dR
  exact K5 (K7 (show oH (gA v1 v2 v8 v9 (i : Int)) (.exit 0) (mT v1 v2 v8) from K3 [.val (.int .i64 (v9.length : Int)), .b false] _ (fun k => by kernel_rfl) (ALn v9 etS <| AC hb <| AN)) (by intro h; cases h))
 | cons hd rest ih =>
  intro i v8 hE hl
  have hb := aS hE
  have hw := aT hE hl
  have hE2 := aG hE
  have hg := aX hE
  unfold dR
  refine La (fun h2 => ?_)
  refine K8 (fun h3 => ?_) (fun h3 => ?_)
  ·refine K9 (fun y hy => ?_)
   replace hy := Ar v1 v2 v9 (i : Int) ((cG hd v1 v2).2.1) ((cG hd v1 v2).2.2.1) 9223372036854775808 v8 ((cG hd v1 v2).1) y hy
   cases y with
   | x2 w0_8 =>
    have h4 := hy
    exact (ih (i + 1) w0_8 hE2 hl).mono fun y hy => by have r : oH (gA v1 v2 v8 v9 (i : Int)) .normal (gA v1 v2 w0_8 v9 (inc (i : Int))) := K3 [.val (.int .i64 (v9.length : Int)), .b true, .row (etS hd), .ret [(false, [tI ((cG hd v1 v2).1)]), (false, [tI ((cG hd v1 v2).2.1)]), (false, [tI ((cG hd v1 v2).2.2.1)]), (false, [tB true])], .lp (.exit 2) (mU v1 v2 v9 (i : Int) w0_8)] _ (fun k => by kernel_rfl) (ALn v9 etS <| AC hb <| AG etS hg <| AD (qZ hd v1 v2 h2 h3) <| AL h4 <| AN); rw [hw] at r; cases y <;> exact K6 r hy
  ·exact K5 (K7 (show oH (gA v1 v2 v8 v9 (i : Int)) .ret (lQ ([]) false) from K3 [.val (.int .i64 (v9.length : Int)), .b true, .row (etS hd), .ret [(false, [tI ((cG hd v1 v2).1)]), (false, [tI ((cG hd v1 v2).2.1)]), (false, [tI ((cG hd v1 v2).2.2.1)]), (false, [tB false])]] _ (fun k => by kernel_rfl) (ALn v9 etS <| AC hb <| AG etS hg <| AD (qZ hd v1 v2 h2 h3) <| AN)) (by intro h; cases h))
noncomputable def gn (x0 : ByteArray) (x1 x2 : Int) : Option ((List Int) × Bool) :=
  if 0 ≤ (inc x2) ∧ (inc x2) ≤ (inc x2) ∧ ((1 : Nat) : Int) * (inc x2) ≤ 281474976710656 ∧ (inc x2) ≤ 4611686018427387904 then if x0.size ≤ 2000000 then if 0 ≤ (44 : Int) ∧ (44 : Int) < 256 then if (an x0 (44 : Int)).length ≤ 9223372036854775807 then (dR x1 x2 (an x0 (44 : Int)) 0 (List.replicate (inc x2).toNat false)).bind fun y => match y with
   | .ret w0_6 w0_7 => (some (w0_6, w0_7))
   | .x0 w0_8 => ((eL x2 w0_8 9223372036854775808 ([]) x1).bind fun y => match y with
    | .x4 w1_16 => (some (w1_16, true))) else none else none else none else none
theorem CL (x0 : ByteArray) (x1 x2 : Int) : Ans (gn x0 x1 x2) (fun r => Does E 77 [.one (tS x0), .one (tI x1), .one (tI x2)] [(false, [.s .own () 1 (r.1.map etI)]), (false, [tB r.2])]) := by
 unfold gn
 refine La (fun h0 => ?_)
 refine La (fun h1 => ?_)
 refine La (fun h2 => ?_)
 refine La (fun hl1 => ?_)
 refine K9 (fun y hy => ?_)
 replace hy := Aq x1 x2 (an x0 (44 : Int)) (an x0 (44 : Int)) 0 (List.replicate (inc x2).toNat false) rfl hl1 y hy
 cases y with
 | ret w0_6 w0_7 =>
  have h3 := hy
  exact K5 (K4 (fn := Tryz.f77) [.rows ((List.replicate (inc x2).toNat false).map etB), .ret [(false, [.s .own () 1 ((an x0 (44 : Int)).map etS)])], .lp .ret (lQ w0_6 w0_7)] _ rfl (fun _ => rfl) (fun k => by kernel_rfl) (AC h0 <| AC (p := List.replicate (inc x2).toNat [tB false] = (List.replicate (inc x2).toNat false).map etB) (pQ rfl) <| AD (aZ x0 (44 : Int) h1 h2) <| AL h3 <| AN))
 | x0 w0_8 =>
  have h3 := hy
  refine K9 (fun y hy => ?_)
  replace hy := As x2 w0_8 9223372036854775808 ([]) x1 y hy
  cases y with
  | x4 w1_16 =>
   have h4 := hy
   exact K5 (K4 (fn := Tryz.f77) [.rows ((List.replicate (inc x2).toNat false).map etB), .ret [(false, [.s .own () 1 ((an x0 (44 : Int)).map etS)])], .lp (.exit 0) (mT x1 x2 w0_8), .lp (.exit 4) (mV w1_16)] _ rfl (fun _ => rfl) (fun k => by kernel_rfl) (AC h0 <| AC (p := List.replicate (inc x2).toNat [tB false] = (List.replicate (inc x2).toNat false).map etB) (pQ rfl) <| AD (aZ x0 (44 : Int) h1 h2) <| AL h3 <| AL h4 <| AN))
inductive qq where
 | x2 (v8 : List Int)
def jE (v6 v7 : Int) (v8 : List Int) (v12 v13 v15 : Int) (v22 : List ByteArray) (v23 v24 : Int) : US := stL 56 [(6, .one (tI v6)), (7, .one (tI v7)), (8, .one (.s .own () 1 (v8.map etI))), (12, .one (tI v12)), (13, .one (tI v13)), (15, .one (tI v15)), (22, .one (.s .own () 1 (v22.map etS))), (23, .one (tI v23)), (24, .one (tI v24))]
def kW (v6 v7 : Int) (v22 : List ByteArray) (v23 v24 : Int) (zv8 : List Int) : US := stL 56 [(6, .one (tI v6)), (7, .one (tI v7)), (8, .one (.s .own () 1 (zv8.map etI))), (22, .one (.s .own () 1 (v22.map etS))), (23, .one (tI v23)), (24, .one (tI v24))]
abbrev qo : US → Exit → US → Prop := Round E 87 (ax Tryz.f87 1)
def xv (v6 v7 : Int) (v8 : List Int) (v12 v13 v15 : Int) (v22 : List ByteArray) (v23 v24 : Int) : qq → Prop
 | .x2 zv8 => Loops E 87 (ax Tryz.f87 1) (jE v6 v7 v8 v12 v13 v15 v22 v23 v24) (.exit 2) (kW v6 v7 v22 v23 v24 zv8)
noncomputable def fy (v12 v13 : Int) : Nat → (List Int) → Int → Option qq
 | 0, _, _ => none
 | n + 1, v8, v15 => cond (decide (v15 ≤ v12))
  (if (v8.length + ([v15]).length) * 8 ≤ 140737488355328 ∧ v8.length + ([v15]).length ≤ 4611686018427387904 then fy v12 v13 n (v8 ++ ([v15])) (IntKind.wrap .i64 (v15 + v13)) else none)
  (some (.x2 v8))
theorem xt (v6 v7 v12 v13 : Int) (v22 : List ByteArray) (v23 v24 : Int) (n : Nat) : ∀ (v8 : List Int) (v15 : Int), Ans (fy v12 v13 n v8 v15) (xv v6 v7 v8 v12 v13 v15 v22 v23 v24) := by
 induction n with
 | zero => intros; exact Ans.none
 | succ n ih =>
  intro v8 v15
  unfold fy
  refine K8 (fun h0 => ?_) (fun h0 => ?_)
  ·refine La (fun h1 => ?_)
   have r : qo (jE v6 v7 v8 v12 v13 v15 v22 v23 v24) .normal (jE v6 v7 (v8 ++ ([v15])) v12 v13 (IntKind.wrap .i64 (v15 + v13)) v22 v23 v24) := K3 [.b true, .rows ((v8 ++ ([v15])).map etI)] _ (fun k => by kernel_rfl) (AC h0 <| AAp etI (fun _ => rfl) h1 <| AN); exact (ih (v8 ++ ([v15])) (IntKind.wrap .i64 (v15 + v13))).mono fun y hy => by cases y <;> exact K6 r hy
  ·exact K5 (K7 (show qo (jE v6 v7 v8 v12 v13 v15 v22 v23 v24) (.exit 2) (kW v6 v7 v22 v23 v24 v8) from K3 [.b false] _ (fun k => by kernel_rfl) (AC h0 <| AN)) (by intro h; cases h))
inductive qp where
 | ret (v4 : List Int) (v5 : Bool)
 | x0 (v8 : List Int)
def fx (v6 v7 : Int) (v8 : List Int) (v22 : List ByteArray) (v23 v24 : Int) : US := stL 56 [(6, .one (tI v6)), (7, .one (tI v7)), (8, .one (.s .own () 1 (v8.map etI))), (22, .one (.s .own () 1 (v22.map etS))), (23, .one (tI v23)), (24, .one (tI v24))]
def jU (zv4 : List Int) (zv5 : Bool) : US := stL 56 [(4, .one (.s .own () 1 (zv4.map etI))), (5, .one (tB zv5))]
def kV (zv8 : List Int) : US := stL 56 [(8, .one (.s .own () 1 (zv8.map etI)))]
abbrev mz : US → Exit → US → Prop := Round E 87 (ax Tryz.f87 0)
def xu (v6 v7 : Int) (v8 : List Int) (v22 : List ByteArray) (v23 v24 : Int) : qp → Prop
 | .ret zv4 zv5 => Loops E 87 (ax Tryz.f87 0) (fx v6 v7 v8 v22 v23 v24) .ret (jU zv4 zv5)
 | .x0 zv8 => Loops E 87 (ax Tryz.f87 0) (fx v6 v7 v8 v22 v23 v24) (.exit 0) (kV zv8)
noncomputable def cU (v6 v7 : Int) : List ByteArray → Nat → (List Int) → Option qp
 | [], i, v8 => some (.x0 v8)
 | hd :: rest, i, v8 => if hd.size ≤ 2000000 then cond ((cF hd v6 v7).2.2.2)
  ((fy ((cF hd v6 v7).2.1) ((cF hd v6 v7).2.2.1) 9223372036854775808 v8 ((cF hd v6 v7).1)).bind fun y => match y with
   | .x2 w0_8 => (cU v6 v7 rest (i + 1) w0_8))
  (some (.ret ([]) false)) else none
theorem xr (v6 v7 : Int) (v22 : List ByteArray) (rest : List ByteArray) : ∀ (i : Nat) (v8 : List Int), (v22).drop i = rest → v22.length ≤ 9223372036854775807 → Ans (cU v6 v7 rest i v8) (xu v6 v7 v8 v22 (v22.length : Int) (i : Int)) := by
 induction rest with
 | nil =>
  intro i v8 hE hl
  have hb := bh hE
  unfold cU
  exact K5 (K7 (show mz (fx v6 v7 v8 v22 (v22.length : Int) (i : Int)) (.exit 0) (kV v8) from K3 [.b false] _ (fun k => by kernel_rfl) (AC hb <| AN)) (by intro h; cases h))
 | cons hd rest ih =>
  intro i v8 hE hl
  have hb := aS hE
  have hw := aT hE hl
  have hE2 := aG hE
  have hg := aX hE
  unfold cU
  refine La (fun h2 => ?_)
  refine K8 (fun h3 => ?_) (fun h3 => ?_)
  ·refine K9 (fun y hy => ?_)
   replace hy := xt v6 v7 ((cF hd v6 v7).2.1) ((cF hd v6 v7).2.2.1) v22 (v22.length : Int) (i : Int) 9223372036854775808 v8 ((cF hd v6 v7).1) y hy
   cases y with
   | x2 w0_8 =>
    have h4 := hy
    exact (ih (i + 1) w0_8 hE2 hl).mono fun y hy => by have r : mz (fx v6 v7 v8 v22 (v22.length : Int) (i : Int)) .normal (fx v6 v7 w0_8 v22 (v22.length : Int) (inc (i : Int))) := K3 [.b true, .row (etS hd), .ret [(false, [tI ((cF hd v6 v7).1)]), (false, [tI ((cF hd v6 v7).2.1)]), (false, [tI ((cF hd v6 v7).2.2.1)]), (false, [tB true])], .lp (.exit 2) (kW v6 v7 v22 (v22.length : Int) (i : Int) w0_8)] _ (fun k => by kernel_rfl) (AC hb <| AG etS hg <| AD (sR hd v6 v7 h2 h3) <| AL h4 <| AN); rw [hw] at r; cases y <;> exact K6 r hy
  ·exact K5 (K7 (show mz (fx v6 v7 v8 v22 (v22.length : Int) (i : Int)) .ret (jU ([]) false) from K3 [.b true, .row (etS hd), .ret [(false, [tI ((cF hd v6 v7).1)]), (false, [tI ((cF hd v6 v7).2.1)]), (false, [tI ((cF hd v6 v7).2.2.1)]), (false, [tB false])]] _ (fun k => by kernel_rfl) (AC hb <| AG etS hg <| AD (sR hd v6 v7 h2 h3) <| AN)) (by intro h; cases h))
noncomputable def fU (x0 : ByteArray) (x1 : Int) : Option ((List Int) × Bool) :=
  if x0.size < 4294967281 then if 1 ≤ (⟨#[44]⟩ : ByteArray).size then if (dr x0 (⟨#[44]⟩ : ByteArray)).length ≤ 9223372036854775807 then (cU ((aF x1).1) ((aF x1).2) (dr x0 (⟨#[44]⟩ : ByteArray)) 0 ([])).bind fun y => match y with
   | .ret w0_4 w0_5 => (some (w0_4, w0_5))
   | .x0 w0_8 => (if w0_8.length < 4611686018427387904 then if (cq w0_8).length ≤ 9223372036854775807 then some (id (gW (cq w0_8)), true) else none else none) else none else none else none
theorem yr (x0 : ByteArray) (x1 : Int) : Ans (fU x0 x1) (fun r => Does E 87 [.one (tS x0), .one (tI x1)] [(false, [.s .own () 1 (r.1.map etI)]), (false, [tB r.2])]) := by
 unfold fU
 refine La (fun h0 => ?_)
 refine La (fun h1 => ?_)
 refine La (fun hl1 => ?_)
 refine K9 (fun y hy => ?_)
 replace hy := xr ((aF x1).1) ((aF x1).2) (dr x0 (⟨#[44]⟩ : ByteArray)) (dr x0 (⟨#[44]⟩ : ByteArray)) 0 ([]) rfl hl1 y hy
 cases y with
 | ret w0_4 w0_5 =>
  have h2 := hy
  exact K5 (K4 (fn := Tryz.f87) [.ret [(false, [tI ((aF x1).1)]), (false, [tI ((aF x1).2)])], .ret [(false, [.s .own () 1 ((dr x0 (⟨#[44]⟩ : ByteArray)).map etS)])], .val (.int .i64 ((dr x0 (⟨#[44]⟩ : ByteArray)).length : Int)), .lp .ret (jU w0_4 w0_5)] _ rfl (fun _ => rfl) (fun k => by kernel_rfl) (AD (bW x1) <| AD (jz x0 (⟨#[44]⟩ : ByteArray) h0 h1) <| ALn (dr x0 (⟨#[44]⟩ : ByteArray)) etS <| AL h2 <| AN))
 | x0 w0_8 =>
  have h2 := hy
  refine La (fun h3 => ?_)
  refine La (fun h4 => ?_)
  exact K5 (K4 (fn := Tryz.f87) [.ret [(false, [tI ((aF x1).1)]), (false, [tI ((aF x1).2)])], .ret [(false, [.s .own () 1 ((dr x0 (⟨#[44]⟩ : ByteArray)).map etS)])], .val (.int .i64 ((dr x0 (⟨#[44]⟩ : ByteArray)).length : Int)), .lp (.exit 0) (kV w0_8), .ret [(false, [.s .own () 1 ((cq w0_8).map etI)])], .ret [(false, [.any]), (false, [.s .own () 1 ((gW (cq w0_8)).map etI)])], .ret [(false, [.any]), (false, [.s .own () 1 ((id (gW (cq w0_8))).map etI)])]] _ rfl (fun _ => rfl) (fun k => by kernel_rfl) (AD (bW x1) <| AD (jz x0 (⟨#[44]⟩ : ByteArray) h0 h1) <| ALn (dr x0 (⟨#[44]⟩ : ByteArray)) etS <| AL h2 <| AC (p := (w0_8.map etI).length = (w0_8.map etI).length) rfl <| AV (ψ := fun k => E.C k 53 [.one (.s .own () 1 (w0_8.map etI))] = some [(false, [.s .own () 1 ((cq w0_8).map etI)])]) (kT w0_8 h3) <| AV (ψ := fun k => E.C k 111 [.one (.s .own () 1 ((cq w0_8).map etI))] = some [(false, [.any]), (false, [.s .own () 1 ((gW (cq w0_8)).map etI)])]) (rO (cq w0_8) h4) <| AV (ψ := fun k => E.C k 110 [.one (.s .own () 1 ((gW (cq w0_8)).map etI))] = some [(false, [.any]), (false, [.s .own () 1 ((id (gW (cq w0_8))).map etI)])]) (vi (gW (cq w0_8))) <| AN))
def Marks (lo hi : Int) (has : List Bool) (l : List Int) : Prop :=
 (has.length : Int) = hi + 1 ∧ (∀ x ∈ l, lo ≤ x ∧ x ≤ hi) ∧ ∀ j : Nat, (j : Int) ≤ hi → (has[j]? = some true ↔ (j : Int) ∈ l)
theorem Marks.add {lo hi : Int} {has : List Bool} {l : List Int} (h : Marks lo hi has l) (h0 : 0 ≤ lo) {x : Int} (hx : lo ≤ x ∧ x ≤ hi) : Marks lo hi (has.set x.toNat true) (l ++ [x]) := by
 obtain ⟨h1, h2, h3⟩ := h
 refine ⟨by rw [List.length_set]; exact h1, fun y hy => ?_, fun j hj => ?_⟩
 ·rcases List.mem_append.1 hy with hy | hy
  ·exact h2 y hy
  ·rw [List.mem_singleton] at hy; subst hy; exact hx
 ·rw [List.mem_append, List.mem_singleton, List.getElem?_set]
  by_cases e : x.toNat = j
  ·rw [if_pos e, if_pos (by omega)]
   exact ⟨fun _ => .inr (by omega), fun _ => rfl⟩
  ·rw [if_neg e, h3 j hj]
   exact ⟨.inl, fun h => h.resolve_right (by omega)⟩
theorem Cy (lo hi b st : Int) (h0 : 0 ≤ lo) (hhi : hi ≤ 59) (hb : b ≤ hi) (h1 : 1 ≤ st) (h2 : st ≤ 1000000000) : ∀ (k n : Nat) (a : Int) (has : List Bool) (l : List Int), (b - a + 1).toNat ≤ k → k < n → lo ≤ a → a ≤ 1000000100 → Marks lo hi has l → l.length + k ≤ 1000000000 →
  ∃ has' l', gC b st n has a = some (.x2 has') ∧ fy b st n l a = some (.x2 l') ∧ Marks lo hi has' l' ∧ l'.length ≤ l.length + k ∧ (a ≤ b ∨ l ≠ [] → l' ≠ [])
 | k, 0, a, has, l, _, hn, _, _, _, _ => by omega
 | k, n + 1, a, has, l, hk, hn, ha, ha', hM, hl => by
  unfold gC fy
  by_cases q : a ≤ b
  ·obtain ⟨g, hg, _⟩ := l4 (l := has) (k := a) (by have := hM.1; omega)
   obtain ⟨k, rfl⟩ : ∃ j, k = j + 1 := ⟨k - 1, by omega⟩
   have e : IntKind.wrap .i64 (a + st) = a + st := cP _ (by omega) (by omega)
   obtain ⟨has', l', e1, e2, e3, e4, e5⟩ := Cy lo hi b st h0 hhi hb h1 h2 k n (a + st) (has.set a.toNat true) (l ++ [a]) (by omega) (by omega) (by omega) (by omega) (hM.add h0 (by omega)) (by simp; omega)
   refine ⟨has', l', ?_, ?_, e3, by simp at e4; omega, fun _ => e5 (.inr (by simp))⟩
   ·rw [decide_eq_true q, cond_true, hg, Option.bind_some, e]; exact e1
   ·rw [decide_eq_true q, cond_true, if_pos (by simp; omega), e]; exact e2
  ·rw [decide_eq_false q]
   exact ⟨has, l, rfl, rfl, hM, by omega, fun h => h.resolve_left q⟩
theorem vx (lo hi : Int) (h0 : 0 ≤ lo) (hlh : lo ≤ hi) (hhi : hi ≤ 59) : ∀ (ps : List ByteArray) (i : Nat) (has : List Bool) (l : List Int), (∀ p ∈ ps, p.size ≤ 2000000) → Marks lo hi has l → l.length + ps.length * 60 ≤ 1000000000 →
  (dR lo hi ps i has = some (.ret [] false) ∧ cU lo hi ps i l = some (.ret [] false)) ∨
  ∃ has' l', dR lo hi ps i has = some (.x0 has') ∧ cU lo hi ps i l = some (.x0 l') ∧ Marks lo hi has' l' ∧ l'.length ≤ l.length + ps.length * 60 ∧ (ps ≠ [] ∨ l ≠ [] → l' ≠ [])
 | [], i, has, l, _, hM, _ => .inr ⟨has, l, rfl, rfl, hM, by simp, fun h => h.resolve_left fun h => h rfl⟩
 | p :: ps, i, has, l, hp, hM, hl => by
  have hq := hp p (by simp)
  obtain ⟨-, r1⟩ := zA p lo hi hq
  obtain ⟨-, r2⟩ := zy p lo hi hq
  unfold dR cU
  simp only [if_pos hq]
  cases e : sB p lo hi with
  | none =>
   rw [e] at r1 r2
   have r1 : (cG p lo hi).2.2.2 = false := r1
   have r2 : (cF p lo hi).2.2.2 = false := r2
   rw [r1, r2]
   exact .inl ⟨rfl, rfl⟩
  | some x =>
   obtain ⟨a, b, st⟩ := x
   rw [e] at r1 r2
   have r1 : cG p lo hi = (a, b, st, true) := r1
   have r2 : cF p lo hi = (a, b, st, true) := r2
   obtain ⟨a1, a2, a3, a4, a5⟩ := Iz hlh e
   simp only [List.length_cons] at hl
   obtain ⟨has', l', e1, e2, e3, e4, e5⟩ := Cy lo hi b st h0 hhi a3 a4 a5 60 9223372036854775808 a has l (by omega) (by omega) a1 (by omega) hM (by omega)
   rw [r1, r2]
   simp only [cond_true, e1, e2, Option.bind_some]
   rcases vx lo hi h0 hlh hhi ps (i + 1) has' l' (fun p hp' => hp p (by simp [hp'])) e3 (by omega) with h | ⟨has2, l2, g1, g2, g3, g4, g5⟩
   ·exact .inl h
   ·exact .inr ⟨has2, l2, g1, g2, g3, by rw [List.length_cons]; omega, fun _ => g5 (.inr (e5 (.inl a2)))⟩
theorem F1 (hi : Int) (has : List Bool) (hh : (has.length : Int) = hi + 1) (hhi : hi ≤ 59) : ∀ (k n : Nat) (x : Int) (v : List Int), (hi - x + 1).toNat ≤ k → k < n → 0 ≤ x → x ≤ 100 → v.length + k ≤ 1000 → v.Pairwise (· < ·) → (∀ y ∈ v, y < x) →
  ∃ w, eL hi has n v x = some (.x4 w) ∧ w.Pairwise (· < ·) ∧ ∀ y, y ∈ w ↔ y ∈ v ∨ (x ≤ y ∧ y ≤ hi ∧ has[y.toNat]? = some true)
 | k, 0, x, v, _, hn, _, _, _, _, _ => by omega
 | k, n + 1, x, v, hk, hn, hx, hx', hl, hp, hm => by
  unfold eL
  by_cases q : x ≤ hi
  ·obtain ⟨g, hg, _⟩ := l4 (l := has) (k := x) (by omega)
   have hg' := (iJ hg).2
   obtain ⟨k, rfl⟩ : ∃ j, k = j + 1 := ⟨k - 1, by omega⟩
   have e : inc x = x + 1 := il _ (by omega) (by omega)
   rw [decide_eq_true q, cond_true, hg, Option.bind_some]
   cases g with
   | true =>
    obtain ⟨w, w1, w2, w3⟩ := F1 hi has hh hhi k n (x + 1) (v ++ [x]) (by omega) (by omega) (by omega) (by omega) (by simp; omega)
     (by rw [List.pairwise_append]; exact ⟨hp, by simp, fun a ha b hb => by rw [List.mem_singleton] at hb; subst hb; exact hm a ha⟩)
     (fun y hy => by rcases List.mem_append.1 hy with h | h; have := hm y h; omega; rw [List.mem_singleton] at h; omega)
    refine ⟨w, by rw [cond_true, if_pos (by simp; omega), e]; exact w1, w2, fun y => ?_⟩
    rw [w3, List.mem_append, List.mem_singleton]
    constructor
    ·rintro ((h | rfl) | h)
     ·exact .inl h
     ·exact .inr ⟨Int.le_refl _, q, hg'⟩
     ·exact .inr ⟨by omega, h.2⟩
    ·rintro (h | h)
     ·exact .inl (.inl h)
     ·by_cases z : y = x
      ·exact .inl (.inr z)
      ·exact .inr ⟨by omega, h.2⟩
   | false =>
    obtain ⟨w, w1, w2, w3⟩ := F1 hi has hh hhi k n (x + 1) v (by omega) (by omega) (by omega) (by omega) (by omega) hp (fun y hy => by have := hm y hy; omega)
    refine ⟨w, by rw [cond_false, e]; exact w1, w2, fun y => ?_⟩
    rw [w3]
    constructor
    ·rintro (h | h)
     ·exact .inl h
     ·exact .inr ⟨by omega, h.2⟩
    ·rintro (h | h)
     ·exact .inl h
     ·by_cases z : y = x
      ·subst z; rw [hg'] at h; exact absurd h.2.2 (by simp)
      ·exact .inr ⟨by omega, h.2⟩
  ·rw [decide_eq_false q]
   exact ⟨v, rfl, hp, fun y => ⟨.inl, fun h => h.resolve_right fun h => by omega⟩⟩
theorem sD (lo hi : Int) : ∀ (l : List Int) (a : Int), l.Pairwise (· < ·) → (∀ x ∈ l, a ≤ x ∧ x ≤ hi) → a ≤ hi + 1 → (l.length : Int) ≤ hi + 1 - a
 | [], a, _, _, h => by simp; omega
 | x :: l, a, hp, hm, h => by
  rw [List.pairwise_cons] at hp
  have := hm x (by simp)
  have := sD lo hi l (x + 1) hp.2 (fun y hy => ⟨by have := hp.1 y hy; omega, (hm y (by simp [hy])).2⟩) (by omega)
  simp; omega
noncomputable def ag (s : ByteArray) (lo hi : Int) : List Int × Bool := (gn s lo hi).getD ([], false)
noncomputable def aQ (s : ByteArray) (i : Int) : List Int × Bool := ag s (aF i).1 (aF i).2
def Gk (lo hi : Int) (r : List Int × Bool) : Prop := (r.2 = false ∧ r.1 = []) ∨ (r.2 = true ∧ r.1.Pairwise (· < ·) ∧ r.1 ≠ [] ∧ (∀ x ∈ r.1, lo ≤ x ∧ x ≤ hi) ∧ r.1.length ≤ 60)
theorem wh (s : ByteArray) (lo hi : Int) (hs : s.size ≤ 2000000) (hb : 0 ≤ lo ∧ lo ≤ hi ∧ hi ≤ 59) : gn s lo hi = some (ag s lo hi) ∧ Gk lo hi (ag s lo hi) ∧ ∀ i, aF i = (lo, hi) → fU s i = some (ag s lo hi) := by
 obtain ⟨h0, hlh, hhi⟩ := hb
 have hinc : inc hi = hi + 1 := il _ (by omega) (by omega)
 have hl := wc 44 (tx s)
 rw [← bM] at hl
 have hL : an s 44 = (bK 44 (tx s)).map ofTx := rfl
 have hlen : (an s 44).length ≤ 2000001 := by rw [hL, List.length_map]; omega
 have hpz : ∀ p ∈ an s 44, p.size ≤ 2000000 := fun p hp => by
  rw [hL] at hp
  obtain ⟨x, hx, rfl⟩ := List.mem_map.1 hp
  have := wd _ _ x hx
  rw [l9]
  rw [← bM] at this
  omega
 have hM : Marks lo hi (List.replicate (inc hi).toNat false) [] := by
  refine ⟨by rw [List.length_replicate, hinc]; omega, fun x hx => (by cases hx), fun j hj => ?_⟩
  rw [List.getElem?_replicate, if_pos (by omega)]
  simp
 have hne : an s 44 ≠ [] := by
  obtain ⟨x, xs, e⟩ := gw 44 (tx s)
  rw [hL, e]; simp
 have hc : ((0 : Int) ≤ 44 ∧ (44 : Int) < 256) = True := eq_true (by decide)
 have pre : (s.size ≤ 2000000) = True := eq_true hs
 have iF : ∀ i, aF i = (lo, hi) → ∀ r, (cU lo hi (an s 44) 0 []).bind (fun y => match y with
   | .ret w0_4 w0_5 => (some (w0_4, w0_5))
   | .x0 w0_8 => (if w0_8.length < 4611686018427387904 then if (cq w0_8).length ≤ 9223372036854775807 then some (id (gW (cq w0_8)), true) else none else none)) = some r → fU s i = some r := fun i hi r hr => by
  unfold fU
  rw [if_pos (by omega), if_pos (by decide), xO, ← hL, if_pos (by omega), hi]
  exact hr
 have sF : gn s lo hi = (dR lo hi (an s 44) 0 (List.replicate (inc hi).toNat false)).bind fun y => match y with
   | .ret w0_6 w0_7 => (some (w0_6, w0_7))
   | .x0 w0_8 => ((eL hi w0_8 9223372036854775808 ([]) lo).bind fun y => match y with
    | .x4 w1_16 => (some (w1_16, true))) := by
  unfold gn
  simp only [hc, pre, if_true]
  rw [if_pos (by omega), if_pos (by omega)]
 rcases vx lo hi h0 hlh hhi (an s 44) 0 _ [] hpz hM (by simp; omega) with ⟨h1, h2⟩ | ⟨has, l, h1, h2, h3, h4, h5⟩
 ·rw [h1] at sF
  have sF' : gn s lo hi = some ([], false) := sF
  have e : ag s lo hi = ([], false) := by unfold ag; rw [sF']; rfl
  rw [e]
  exact ⟨sF', .inl ⟨rfl, rfl⟩, fun i hi => iF i hi _ (by rw [h2]; rfl)⟩
 ·obtain ⟨w, w1, w2, w3⟩ := F1 hi has h3.1 hhi 60 9223372036854775808 lo [] (by omega) (by omega) h0 (by omega) (by simp) (by simp) (fun y hy => by cases hy)
  have hw : ∀ y, y ∈ w ↔ y ∈ l := fun y => by
   rw [w3]
   constructor
   ·rintro (h | ⟨a1, a2, a3⟩)
    ·cases h
    ·have := (h3.2.2 y.toNat (by omega)).1 a3
     rwa [show ((y.toNat : Nat) : Int) = y by omega] at this
   ·intro h
    have b := h3.2.1 y h
    refine .inr ⟨b.1, b.2, (h3.2.2 y.toNat (by omega)).2 ?_⟩
    rwa [show ((y.toNat : Nat) : Int) = y by omega]
  obtain ⟨c1, c2⟩ := CZ l
  have e3 : gW (cq l) = w := qy c1 w2 fun y => (c2 y).trans (hw y).symm
  rw [h1, Option.bind_some] at sF
  simp only [w1, Option.bind_some] at sF
  have e : ag s lo hi = (w, true) := by unfold ag; rw [sF]; rfl
  rw [e]
  have wm : ∀ x ∈ w, lo ≤ x ∧ x ≤ hi := fun x hx => h3.2.1 x ((hw x).1 hx)
  have wl := sD lo hi w lo w2 wm (by omega)
  refine ⟨sF, .inr ⟨rfl, w2, fun z => ?_, wm, by show w.length ≤ 60; omega⟩, fun i hi => iF i hi _ ?_⟩
  ·have hln := h5 (.inl hne)
   cases q : l with
   | nil => exact hln q
   | cons x t => have := (hw x).2 (by rw [q]; simp); rw [show w = [] from z] at this; cases this
  ·rw [h2, Option.bind_some]
   simp only
   have sl : (cq l).length = l.length := List.length_mergeSort l
   rw [sl, if_pos (by simp at h4; omega), if_pos (by simp at h4; omega), e3]
   rfl
theorem Al (s : ByteArray) (i : Int) (hs : s.size ≤ 2000000) : fU s i = some (aQ s i) := (wh s _ _ hs (Gs i)).2.2 i rfl
theorem dF (x0 : ByteArray) (x1 : Int) (x2 : Int) (h : x0.size ≤ 2000000) (hb : 0 ≤ x1 ∧ x1 ≤ x2 ∧ x2 ≤ 59) : Does E 77 [.one (tS x0), .one (tI x1), .one (tI x2)] [(false, [.s .own () 1 (((ag x0 x1 x2).1).map etI)]), (false, [tB ((ag x0 x1 x2).2)])] := by
 exact CL x0 x1 x2 _ (wh x0 x1 x2 h hb).1
theorem x6 (x0 : ByteArray) (x1 : Int) (h : x0.size ≤ 2000000) : Does E 87 [.one (tS x0), .one (tI x1)] [(false, [.s .own () 1 (((aQ x0 x1).1).map etI)]), (false, [tB ((aQ x0 x1).2)])] := by
 exact yr x0 x1 _ (Al x0 x1 h)
theorem ca (x0 : ByteArray) (x1 : Int) (h : x0.size ≤ 2000000) {bb : Bool} (hbb : (aQ x0 x1).2 = bb) : Does E 87 [.one (tS x0), .one (tI x1)] [(false, [.s .own () 1 (((aQ x0 x1).1).map etI)]), (false, [tB bb])] := by rw [← hbb]; exact x6 x0 x1 h
end Go.Proofs.YtjfbofdmjihglaaGreatDoor.Am
