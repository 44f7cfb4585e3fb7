/- What the functions that mark plans and numbers do. -/
import Derived.Test.YtjfbofdmjihglaaGreatDoorUps
namespace Go.Proofs.YtjfbofdmjihglaaGreatDoor.Am
open Go Go.Proofs Classical
set_option maxRecDepth 100000
set_option linter.unusedVariables false
set_option linter.unusedSimpArgs false
inductive vF where
 | ret (v4 : Bool)
 | x0 
def jo (v0 v1 : List Int) (v5 : Int) : US := stL 26 [(0, .one (.s .far () 1 (v0.map etI))), (1, .one (.s .far () 1 (v1.map etI))), (5, .one (tI v5))]
def ne (zv4 : Bool) : US := stL 26 [(4, .one (tB zv4))]
def oy  : US := stL 26 []
abbrev qN : US → Exit → US → Prop := Round E 17 (ax Tryz.f17 0)
def DV (v0 v1 : List Int) (v5 : Int) : vF → Prop
 | .ret zv4 => Loops E 17 (ax Tryz.f17 0) (jo v0 v1 v5) .ret (ne zv4)
 | .x0 => Loops E 17 (ax Tryz.f17 0) (jo v0 v1 v5) (.exit 0) (oy)
noncomputable def gY (v1 : List Int) : List Int → Nat → Option vF
 | [], i => some (.x0)
 | hd :: rest, i => (aI v1 (i : Int)).bind fun g1 => cond (hd != g1)
  (some (.ret false))
  (gY v1 rest (i + 1))
theorem DU (v0 v1 : List Int) (rest : List Int) : ∀ (i : Nat) , (v0).drop i = rest → v0.length ≤ 9223372036854775807 → Ans (gY v1 rest i) (DV v0 v1 (i : Int)) := by
 induction rest with
 | nil =>
  intro i hE hl
  have hb := bh hE
  unfold gY
  exact K5 (K7 (show qN (jo v0 v1 (i : Int)) (.exit 0) (oy) from K3 [.val (.int .i64 (v0.length : Int)), .b false] _ (fun k => by kernel_rfl) (ALn v0 etI <| AC hb <| AN)) (by intro h; cases h))
 | cons hd rest ih =>
  intro i hE hl
  have hb := aS hE
  have hw := aT hE hl
  have hE2 := aG hE
  have hg := aX hE
  unfold gY
  refine K9 (fun g1 h2 => ?_)
  refine K8 (fun h3 => ?_) (fun h3 => ?_)
  ·exact K5 (K7 (show qN (jo v0 v1 (i : Int)) .ret (ne false) from K3 [.val (.int .i64 (v0.length : Int)), .b true, .row (etI hd), .row (etI g1), .b true] _ (fun k => by kernel_rfl) (ALn v0 etI <| AC hb <| AR etI hg <| AR etI h2 <| AC h3 <| AN)) (by intro h; cases h))
  ·exact (ih (i + 1) hE2 hl).mono fun y hy => by have r : qN (jo v0 v1 (i : Int)) .normal (jo v0 v1 (inc (i : Int))) := K3 [.val (.int .i64 (v0.length : Int)), .b true, .row (etI hd), .row (etI g1), .b false] _ (fun k => by kernel_rfl) (ALn v0 etI <| AC hb <| AR etI hg <| AR etI h2 <| AC h3 <| AN); rw [hw] at r; cases y <;> exact K6 r hy
noncomputable def so (x0 x1 : List Int) : Option (Bool) :=
  cond ((x0.length : Int) != (x1.length : Int))
   (some (false))
   (if x0.length ≤ 9223372036854775807 then (gY x1 x0 0).bind fun y => match y with
    | .ret w0_4 => (some (w0_4))
    | .x0 => (some (true)) else none)
theorem FU (x0 x1 : List Int) : Ans (so x0 x1) (fun r => Does E 17 [.one (.s .far () 1 (x0.map etI)), .one (.s .far () 1 (x1.map etI))] [(false, [tB r])]) := by
 unfold so
 refine K8 (fun h0 => ?_) (fun h0 => ?_)
 ·exact K5 (K4 (fn := Tryz.f17) [.val (.int .i64 (x0.length : Int)), .val (.int .i64 (x1.length : Int)), .b true] _ rfl (fun _ => rfl) (fun k => by kernel_rfl) (ALn x0 etI <| ALn x1 etI <| AC h0 <| AN))
 ·refine La (fun hl2 => ?_)
  refine K9 (fun y hy => ?_)
  replace hy := DU x0 x1 x0 0 rfl hl2 y hy
  cases y with
  | ret w0_4 =>
   have h1 := hy
   exact K5 (K4 (fn := Tryz.f17) [.val (.int .i64 (x0.length : Int)), .val (.int .i64 (x1.length : Int)), .b false, .lp .ret (ne w0_4)] _ rfl (fun _ => rfl) (fun k => by kernel_rfl) (ALn x0 etI <| ALn x1 etI <| AC h0 <| AL h1 <| AN))
  | x0 =>
   have h1 := hy
   exact K5 (K4 (fn := Tryz.f17) [.val (.int .i64 (x0.length : Int)), .val (.int .i64 (x1.length : Int)), .b false, .lp (.exit 0) (oy)] _ rfl (fun _ => rfl) (fun k => by kernel_rfl) (ALn x0 etI <| ALn x1 etI <| AC h0 <| AL h1 <| AN))
theorem vt (l : List Int) : ∀ (rest : List Int) (i : Nat), l.drop i = rest → (∀ y ∈ rest, ao.sm y) → gY l rest i = some .x0
 | [], i, _, _ => rfl
 | x :: rest, i, hE, h => by
  have hx := h x (by simp)
  unfold gY
  rw [aX hE, Option.bind_some]
  simp only [hx, if_true, yes, bne_self_eq_false, BEq.rfl, Bool.not_true, cond_false, cond_true]
  exact vt l rest (i + 1) (aG hE) (fun y hy => h y (by simp [hy]))
theorem aV (x0 : List Int) (x1 : List Int) (e : x0 = x1) (h : ao.sm x0) : Does E 17 [.one (.s .far () 1 (x0.map etI)), .one (.s .far () 1 (x1.map etI))] [(false, [tB (yes x0 x1)])] := by
 subst e
 exact FU x0 x0 _ (by
  unfold so
  rw [if_pos (iK h), vt x0 x0 0 rfl h.2]
  simp [yes])
inductive tb where
 | x0 (v3 : ByteArray)
def ln (v0 : Int) (v3 : ByteArray) : US := stL 20 [(0, .one (tI v0)), (3, .one (tS v3))]
def mG (zv3 : ByteArray) : US := stL 20 [(3, .one (tS zv3))]
abbrev ta : US → Exit → US → Prop := Round E 64 (ax Tryz.f64 0)
def Ah (v0 : Int) (v3 : ByteArray) : tb → Prop
 | .x0 zv3 => Loops E 64 (ax Tryz.f64 0) (ln v0 v3) (.exit 0) (mG zv3)
noncomputable def fC  : Nat → Int → ByteArray → Option tb
 | 0, _, _ => none
 | n + 1, v0, v3 => cond (decide (v0 > (0 : Int)))
  (if (strOfNums ([IntKind.wrap .u8 (IntKind.wrap .i64 ((48 : Int) + (Int.tmod v0 (10 : Int))))])).size + v3.size ≤ maxStr then fC n (IntKind.wrap .i64 (Int.tdiv v0 (10 : Int))) ((strOfNums ([IntKind.wrap .u8 (IntKind.wrap .i64 ((48 : Int) + (Int.tmod v0 (10 : Int))))])) ++ v3) else none)
  (some (.x0 v3))
theorem Ag  (n : Nat) : ∀ (v0 : Int) (v3 : ByteArray), Ans (fC n v0 v3) (Ah v0 v3) := by
 induction n with
 | zero => intros; exact Ans.none
 | succ n ih =>
  intro v0 v3
  unfold fC
  refine K8 (fun h0 => ?_) (fun h0 => ?_)
  ·refine La (fun h1 => ?_)
   have r : ta (ln v0 v3) .normal (ln (IntKind.wrap .i64 (Int.tdiv v0 (10 : Int))) ((strOfNums ([IntKind.wrap .u8 (IntKind.wrap .i64 ((48 : Int) + (Int.tmod v0 (10 : Int))))])) ++ v3)) := K3 [.b true, .no, .no, .val (.string (strOfNums ([IntKind.wrap .u8 (IntKind.wrap .i64 ((48 : Int) + (Int.tmod v0 (10 : Int))))]))), .val (.string ((strOfNums ([IntKind.wrap .u8 (IntKind.wrap .i64 ((48 : Int) + (Int.tmod v0 (10 : Int))))])) ++ v3))] _ (fun k => by kernel_rfl) (AC h0 <| AC (p := (c7 (((([IntKind.wrap .u8 (IntKind.wrap .i64 ((48 : Int) + (Int.tmod v0 (10 : Int))))]).map etY).drop 0).take (([IntKind.wrap .u8 (IntKind.wrap .i64 ((48 : Int) + (Int.tmod v0 (10 : Int))))]).map etY).length)).map strOfNums = some (strOfNums ([IntKind.wrap .u8 (IntKind.wrap .i64 ((48 : Int) + (Int.tmod v0 (10 : Int))))]))) (by simp only [List.take_length, List.drop_zero]; exact C3) <| AC (ar (tab := E.tab) (t := 9) h1) <| AN); exact (ih (IntKind.wrap .i64 (Int.tdiv v0 (10 : Int))) ((strOfNums ([IntKind.wrap .u8 (IntKind.wrap .i64 ((48 : Int) + (Int.tmod v0 (10 : Int))))])) ++ v3)).mono fun y hy => by cases y <;> exact K6 r hy
  ·exact K5 (K7 (show ta (ln v0 v3) (.exit 0) (mG v3) from K3 [.b false] _ (fun k => by kernel_rfl) (AC h0 <| AN)) (by intro h; cases h))
noncomputable def dJ (x0 : Int) : Option (ByteArray) :=
  cond (decide (x0 ≤ (0 : Int)))
   (some ((⟨#[109, 48]⟩ : ByteArray)))
   ((fC 9223372036854775808 x0 ByteArray.empty).bind fun y => match y with
    | .x0 w0_3 => (if (⟨#[109]⟩ : ByteArray).size + w0_3.size ≤ maxStr then some ((⟨#[109]⟩ : ByteArray) ++ w0_3) else none))
theorem B3 (x0 : Int) : Ans (dJ x0) (fun r => Does E 64 [.one (tI x0)] [(false, [tS r])]) := by
 unfold dJ
 refine K8 (fun h0 => ?_) (fun h0 => ?_)
 ·exact K5 (K4 (fn := Tryz.f64) [.b true] _ rfl (fun _ => rfl) (fun k => by kernel_rfl) (AC h0 <| AN))
 ·refine K9 (fun y hy => ?_)
  replace hy := Ag 9223372036854775808 x0 ByteArray.empty y hy
  cases y with
  | x0 w0_3 =>
   have h1 := hy
   refine La (fun h2 => ?_)
   exact K5 (K4 (fn := Tryz.f64) [.b false, .lp (.exit 0) (mG w0_3), .val (.string ((⟨#[109]⟩ : ByteArray) ++ w0_3))] _ rfl (fun _ => rfl) (fun k => by kernel_rfl) (AC h0 <| AL h1 <| AC (ar (tab := E.tab) (t := 9) h2) <| AN))
noncomputable def ah (k : Int) : ByteArray := (dJ k).getD ByteArray.empty
theorem JP : ∀ (d : Nat) (n : Nat) (v : Int) (s : ByteArray), v < 10 ^ d → v ≤ 9223372036854775807 → d < n → s.size + d ≤ 100 → ∃ r, fC n v s = some (.x0 r) ∧ r.size ≤ s.size + d
 | d, 0, v, s, h, _, hn, _ => by omega
 | 0, n + 1, v, s, h, _, hn, _ => by
  unfold fC
  rw [decide_eq_false (by simp at h; omega)]
  exact ⟨s, rfl, by omega⟩
 | d + 1, n + 1, v, s, h, hv, hn, hs => by
  unfold fC
  by_cases q : v > 0
  ·rw [decide_eq_true q, cond_true]
   have e : Int.tdiv v 10 = v / 10 := Int.tdiv_eq_ediv_of_nonneg (by omega)
   rw [Int.pow_succ] at h
   have z : (strOfNums [IntKind.wrap .u8 (IntKind.wrap .i64 ((48 : Int) + (Int.tmod v (10 : Int))))] ++ s).size = s.size + 1 := by rw [ByteArray.size_append]; show 1 + s.size = _; omega
   have z2 : (strOfNums [IntKind.wrap .u8 (IntKind.wrap .i64 ((48 : Int) + (Int.tmod v (10 : Int))))]).size + s.size ≤ maxStr := by show 1 + s.size ≤ 4611686018427387904; omega
   rw [if_pos z2, e, cP _ (by omega) (by omega)]
   obtain ⟨r, h1, h2⟩ := JP d n (v / 10) (strOfNums [IntKind.wrap .u8 (IntKind.wrap .i64 ((48 : Int) + (Int.tmod v (10 : Int))))] ++ s) (by omega) (by omega) (by omega) (by omega)
   exact ⟨r, h1, by omega⟩
  ·rw [decide_eq_false q]
   exact ⟨s, rfl, by omega⟩
theorem oE (k : Int) (h1 : k ≤ 4611686018427387904) : dJ k = some (ah k) ∧ ao.sm (ah k) := by
 have e : ∃ r, dJ k = some r ∧ r.size ≤ 100 := by
  unfold dJ
  by_cases q : k ≤ 0
  ·rw [decide_eq_true q]
   exact ⟨_, rfl, by decide⟩
  ·rw [decide_eq_false q, cond_false]
   obtain ⟨r, g1, g2⟩ := JP 19 9223372036854775808 k ByteArray.empty (by omega) (by omega) (by omega) (by decide)
   have z : ByteArray.empty.size = 0 := rfl
   have z2 : (⟨#[109]⟩ : ByteArray).size = 1 := rfl
   rw [g1, Option.bind_some]
   simp only
   rw [if_pos (by rw [z2]; unfold maxStr; omega)]
   exact ⟨_, rfl, by rw [ByteArray.size_append, z2]; omega⟩
 obtain ⟨r, g1, g2⟩ := e
 have p : ah k = r := by unfold ah; rw [g1]; rfl
 rw [p]
 exact ⟨g1, show r.size ≤ 1050000 by omega⟩
theorem po (x0 : Int) (h : dJ x0 = some (ah x0)) : Does E 64 [.one (tI x0)] [(false, [tS (ah x0)])] := by
 exact B3 x0 _ h
inductive pJ where
 | x0 (v0 : List ByteArray) (v1 : Int)
def iS (v0 : List ByteArray) (v1 v5 : Int) : US := stL 20 [(0, .one (.s .own () 1 (v0.map etS))), (1, .one (tI v1)), (5, .one (tI v5))]
def j7 (zv0 : List ByteArray) (zv1 : Int) : US := stL 20 [(0, .one (.s .own () 1 (zv0.map etS))), (1, .one (tI zv1))]
abbrev pI : US → Exit → US → Prop := Round E 65 (ax Tryz.f65 0)
def wv (v0 : List ByteArray) (v1 v5 : Int) : pJ → Prop
 | .x0 zv0 zv1 => Loops E 65 (ax Tryz.f65 0) (iS v0 v1 v5) (.exit 0) (j7 zv0 zv1)
noncomputable def c6  : List ByteArray → List ByteArray → Nat → Int → Option pJ
 | [], done, i, v1 => some (.x0 done v1)
 | hd :: rest, done, i, v1 => if dJ v1 = some (ah v1) then c6 rest (done ++ [(ah v1)]) (i + 1) (inc v1) else none
theorem wu  (rest : List ByteArray) : ∀ (done : List ByteArray) (i : Nat) (v1 : Int), i = done.length → (done ++ rest).length ≤ 9223372036854775807 → Ans (c6 rest done i v1) (wv (done ++ rest) v1 (i : Int)) := by
 induction rest with
 | nil =>
  intro done i v1 hi hl
  rw [List.append_nil]
  have hb := Ca hi
  unfold c6
  exact K5 (K7 (show pI (iS done v1 (i : Int)) (.exit 0) (j7 done v1) from K3 [.val (.int .i64 (done.length : Int)), .b false] _ (fun k => by kernel_rfl) (ALn done etS <| AC hb <| AN)) (by intro h; cases h))
 | cons hd rest ih =>
  intro done i v1 hi hl
  have hb := yE (hd := hd) (rest := rest) hi
  have hw := yF (hd := hd) (rest := rest) hi hl
  have hg := Cb (hd := hd) (rest := rest) hi
  unfold c6
  refine La (fun h1 => ?_)
  exact (ih (done ++ [(ah v1)]) (i + 1) (inc v1) (by simp [hi]) (by simpa using hl)).mono fun y hy => by have r : pI (iS (done ++ hd :: rest) v1 (i : Int)) .normal (iS ((done ++ hd :: rest).set (i : Int).toNat (ah v1)) (inc v1) (inc (i : Int))) := K3 [.val (.int .i64 ((done ++ hd :: rest).length : Int)), .b true, .ret [(false, [tS (ah v1)])], .row (etS hd), .rows (((done ++ hd :: rest).set (i : Int).toNat (ah v1)).map etS)] _ (fun k => by kernel_rfl) (ALn (done ++ hd :: rest) etS <| AC hb <| AD (po v1 h1) <| AG etS hg <| AC (p := ((done ++ hd :: rest).map etS).set (0 + (i : Int).toNat) (ay (etS hd) 0 [tS (ah v1)]) = ((done ++ hd :: rest).set (i : Int).toNat (ah v1)).map etS) (ea (by rfl)) <| AN); rw [hw, wG hi] at r; cases y <;> exact K6 r hy
noncomputable def dx (x0 : List ByteArray) (x1 : Int) : Option ((List ByteArray) × Int) :=
  if x0.length ≤ 9223372036854775807 then (c6 x0 [] 0 x1).bind fun y => match y with
   | .x0 w0_0 w0_1 => (some (w0_0, w0_1)) else none
theorem xw (x0 : List ByteArray) (x1 : Int) : Ans (dx x0 x1) (fun r => Does E 65 [.one (.s .own () 1 (x0.map etS)), .one (tI x1)] [(false, [.s .own () 1 (r.1.map etS)]), (false, [tI r.2])]) := by
 unfold dx
 refine La (fun hl1 => ?_)
 refine K9 (fun y hy => ?_)
 replace hy := wu x0 [] 0 x1 rfl hl1 y hy
 cases y with
 | x0 w0_0 w0_1 =>
  have h0 := hy
  exact K5 (K4 (fn := Tryz.f65) [.lp (.exit 0) (j7 w0_0 w0_1)] _ rfl (fun _ => rfl) (fun k => by kernel_rfl) (AL h0 <| AN))
noncomputable def aJ (x : List ByteArray) (k : Int) : (List ByteArray) × Int := (dx x k).getD ([], 0)
theorem wP (x0 : List ByteArray) (x1 : Int) (h : dx x0 x1 = some (aJ x0 x1)) : Does E 65 [.one (.s .own () 1 (x0.map etS)), .one (tI x1)] [(false, [.s .own () 1 (((aJ x0 x1).1).map etS)]), (false, [tI ((aJ x0 x1).2)])] := by
 exact xw x0 x1 _ h
theorem pM : ∀ (rest done : List ByteArray) (i : Nat) (k : Int), (∀ y ∈ rest, ao.sm y) → 0 ≤ k → k + 1 * (rest.length : Int) ≤ 4611686018427387904 →
  ∃ new m, c6 rest done i k = some (.x0 (done ++ new) m) ∧ k ≤ m ∧ m ≤ k + 1 * (rest.length : Int) ∧ new.length = rest.length ∧ (∀ y ∈ new, ao.sm y)
 | [], done, i, k, _, h0, _ => ⟨[], k, by unfold c6; rw [List.append_nil], by omega, by simp, rfl, fun y hy => (by cases hy)⟩
 | x :: rest, done, i, k, h, h0, h1 => by
  have hx := h x (by simp)
  rw [List.length_cons] at h1 ⊢
  have t1 := oE k (by omega)
  have w1 : inc k = k + 1 := il _ (by omega) (by omega)
  obtain ⟨new, m, g1, g2, g3, g4, g5⟩ := pM rest (done ++ [(ah k)]) (i + 1) (k + 1) (fun y hy => h y (by simp [hy])) (by omega) (by omega)
  refine ⟨(ah k) :: new, m, ?_, by omega, by omega, by simp [g4], ?_⟩
  ·unfold c6
   simp only [t1.1, w1, if_true, g1, List.append_assoc, List.singleton_append]
  ·intro y hy
   rcases List.mem_cons.1 hy with rfl | hy
   ·exact t1.2
   ·exact g5 y hy
theorem wz (l : List ByteArray) (k : Int) (h : ao.sm l) (h0 : 0 ≤ k) (h1 : k + 1050000 ≤ 4611686018427387904) : dx l k = some (aJ l k) ∧ True ∧ True ∧ k ≤ (aJ l k).2 ∧ (aJ l k).2 ≤ k + 1050000 ∧ ao.sm (aJ l k).1 := by
 have hl := h.1
 obtain ⟨new, m, g1, g2, g3, g4, g5⟩ := pM l [] 0 k h.2 h0 (by omega)
 have e : dx l k = some (new, m) := by unfold dx; rw [if_pos (iK h), g1]; rfl
 have p : aJ l k = (new, m) := by unfold aJ; rw [e]; rfl
 rw [p]
 exact ⟨e, trivial, trivial, g2, by omega, ⟨by show new.length ≤ 1050000; omega, g5⟩⟩
inductive rv where
 | x0 (v0 : List GTask) (v1 : Int)
def kA (v0 : List GTask) (v1 v5 : Int) : US := stL 52 [(0, .one (.s .own () 5 (v0.map (GTask.t .own)))), (1, .one (tI v1)), (5, .one (tI v5))]
def lM (zv0 : List GTask) (zv1 : Int) : US := stL 52 [(0, .one (.s .own () 5 (zv0.map (GTask.t .own)))), (1, .one (tI zv1))]
abbrev ru : US → Exit → US → Prop := Round E 38 (ax Tryz.f38 0)
def yy (v0 : List GTask) (v1 v5 : Int) : rv → Prop
 | .x0 zv0 zv1 => Loops E 38 (ax Tryz.f38 0) (kA v0 v1 v5) (.exit 0) (lM zv0 zv1)
noncomputable def d8  : List GTask → List GTask → Nat → Int → Option rv
 | [], done, i, v1 => some (.x0 done v1)
 | hd :: rest, done, i, v1 => if dJ v1 = some (ah v1) then if dJ (inc v1) = some (ah (inc v1)) then if dx hd.f4 (inc (inc (inc (inc v1)))) = some (aJ hd.f4 (inc (inc (inc (inc v1))))) then d8 rest (done ++ [(GTask.mk (ah v1) (ah (inc v1)) (inc (inc v1)) ((Int.tmod (inc (inc (inc v1))) (3 : Int)) == (0 : Int)) ((aJ hd.f4 (inc (inc (inc (inc v1))))).1))]) (i + 1) ((aJ hd.f4 (inc (inc (inc (inc v1))))).2) else none else none else none
theorem yw  (rest : List GTask) : ∀ (done : List GTask) (i : Nat) (v1 : Int), i = done.length → (done ++ rest).length ≤ 9223372036854775807 → Ans (d8 rest done i v1) (yy (done ++ rest) v1 (i : Int)) := by
 induction rest with
 | nil =>
  intro done i v1 hi hl
  rw [List.append_nil]
  have hb := Ca hi
  unfold d8
  exact K5 (K7 (show ru (kA done v1 (i : Int)) (.exit 0) (lM done v1) from K3 [.val (.int .i64 (done.length : Int)), .b false] _ (fun k => by kernel_rfl) (ALn done (GTask.t .own) <| AC hb <| AN)) (by intro h; cases h))
 | cons hd rest ih =>
  intro done i v1 hi hl
  have hb := yE (hd := hd) (rest := rest) hi
  have hw := yF (hd := hd) (rest := rest) hi hl
  have hg := Cb (hd := hd) (rest := rest) hi
  unfold d8
  refine La (fun h1 => ?_)
  refine La (fun h3 => ?_)
  refine La (fun h4 => ?_)
  exact (ih (done ++ [(GTask.mk (ah v1) (ah (inc v1)) (inc (inc v1)) ((Int.tmod (inc (inc (inc v1))) (3 : Int)) == (0 : Int)) ((aJ hd.f4 (inc (inc (inc (inc v1))))).1))]) (i + 1) ((aJ hd.f4 (inc (inc (inc (inc v1))))).2) (by simp [hi]) (by simpa using hl)).mono fun y hy => by have r : ru (kA (done ++ hd :: rest) v1 (i : Int)) .normal (kA ((done ++ hd :: rest).set (i : Int).toNat (GTask.mk (ah v1) (ah (inc v1)) (inc (inc v1)) ((Int.tmod (inc (inc (inc v1))) (3 : Int)) == (0 : Int)) ((aJ hd.f4 (inc (inc (inc (inc v1))))).1))) ((aJ hd.f4 (inc (inc (inc (inc v1))))).2) (inc (i : Int))) := K3 [.val (.int .i64 ((done ++ hd :: rest).length : Int)), .b true, .ret [(false, [tS (ah v1)])], .row ((GTask.t .own) hd), .rows (((done ++ hd :: rest).set (i : Int).toNat (GTask.mk (ah v1) hd.f1 hd.f2 hd.f3 hd.f4)).map (GTask.t .own)), .ret [(false, [tS (ah (inc v1))])], .row ((GTask.t .own) (GTask.mk (ah v1) hd.f1 hd.f2 hd.f3 hd.f4)), .rows (((done ++ hd :: rest).set (i : Int).toNat (GTask.mk (ah v1) (ah (inc v1)) hd.f2 hd.f3 hd.f4)).map (GTask.t .own)), .row ((GTask.t .own) (GTask.mk (ah v1) (ah (inc v1)) hd.f2 hd.f3 hd.f4)), .rows (((done ++ hd :: rest).set (i : Int).toNat (GTask.mk (ah v1) (ah (inc v1)) (inc (inc v1)) hd.f3 hd.f4)).map (GTask.t .own)), .row ((GTask.t .own) (GTask.mk (ah v1) (ah (inc v1)) (inc (inc v1)) hd.f3 hd.f4)), .rows (((done ++ hd :: rest).set (i : Int).toNat (GTask.mk (ah v1) (ah (inc v1)) (inc (inc v1)) ((Int.tmod (inc (inc (inc v1))) (3 : Int)) == (0 : Int)) hd.f4)).map (GTask.t .own)), .row ((GTask.t .own) (GTask.mk (ah v1) (ah (inc v1)) (inc (inc v1)) ((Int.tmod (inc (inc (inc v1))) (3 : Int)) == (0 : Int)) hd.f4)), .row ((GTask.t .own) (GTask.mk (ah v1) (ah (inc v1)) (inc (inc v1)) ((Int.tmod (inc (inc (inc v1))) (3 : Int)) == (0 : Int)) hd.f4)), .ret [(false, [.s .own () 1 (((aJ hd.f4 (inc (inc (inc (inc v1))))).1).map etS)]), (false, [tI ((aJ hd.f4 (inc (inc (inc (inc v1))))).2)])], .row ((GTask.t .own) (GTask.mk (ah v1) (ah (inc v1)) (inc (inc v1)) ((Int.tmod (inc (inc (inc v1))) (3 : Int)) == (0 : Int)) hd.f4)), .rows (((done ++ hd :: rest).set (i : Int).toNat (GTask.mk (ah v1) (ah (inc v1)) (inc (inc v1)) ((Int.tmod (inc (inc (inc v1))) (3 : Int)) == (0 : Int)) ((aJ hd.f4 (inc (inc (inc (inc v1))))).1))).map (GTask.t .own))] _ (fun k => by kernel_rfl) (ALn (done ++ hd :: rest) (GTask.t .own) <| AC hb <| AD (po v1 h1) <| AG (GTask.t .own) hg <| AC (p := ((done ++ hd :: rest).map (GTask.t .own)).set (0 + (i : Int).toNat) (ay ((GTask.t .own) hd) 0 [tS (ah v1)]) = ((done ++ hd :: rest).set (i : Int).toNat (GTask.mk (ah v1) hd.f1 hd.f2 hd.f3 hd.f4)).map (GTask.t .own)) (ea (by rfl)) <| AD (po (inc v1) h3) <| AC (p := 0 ≤ (i : Int) ∧ (i : Int) < ((((done ++ hd :: rest).set (i : Int).toNat (GTask.mk (ah v1) hd.f1 hd.f2 hd.f3 hd.f4)).map (GTask.t .own)).length : Int)) (jA (gX hg)) <| AC (p := (((done ++ hd :: rest).set (i : Int).toNat (GTask.mk (ah v1) hd.f1 hd.f2 hd.f3 hd.f4)).map (GTask.t .own))[0 + (i : Int).toNat]? = some ((GTask.t .own) (GTask.mk (ah v1) hd.f1 hd.f2 hd.f3 hd.f4))) (eH (gX hg)) <| AC (p := (((done ++ hd :: rest).set (i : Int).toNat (GTask.mk (ah v1) hd.f1 hd.f2 hd.f3 hd.f4)).map (GTask.t .own)).set (0 + (i : Int).toNat) (ay ((GTask.t .own) (GTask.mk (ah v1) hd.f1 hd.f2 hd.f3 hd.f4)) 1 [tS (ah (inc v1))]) = ((done ++ hd :: rest).set (i : Int).toNat (GTask.mk (ah v1) (ah (inc v1)) hd.f2 hd.f3 hd.f4)).map (GTask.t .own)) (vh (by rfl)) <| AC (p := 0 ≤ (i : Int) ∧ (i : Int) < ((((done ++ hd :: rest).set (i : Int).toNat (GTask.mk (ah v1) (ah (inc v1)) hd.f2 hd.f3 hd.f4)).map (GTask.t .own)).length : Int)) (jA (gX hg)) <| AC (p := (((done ++ hd :: rest).set (i : Int).toNat (GTask.mk (ah v1) (ah (inc v1)) hd.f2 hd.f3 hd.f4)).map (GTask.t .own))[0 + (i : Int).toNat]? = some ((GTask.t .own) (GTask.mk (ah v1) (ah (inc v1)) hd.f2 hd.f3 hd.f4))) (eH (gX hg)) <| AC (p := (((done ++ hd :: rest).set (i : Int).toNat (GTask.mk (ah v1) (ah (inc v1)) hd.f2 hd.f3 hd.f4)).map (GTask.t .own)).set (0 + (i : Int).toNat) (ay ((GTask.t .own) (GTask.mk (ah v1) (ah (inc v1)) hd.f2 hd.f3 hd.f4)) 2 [tI (inc (inc v1))]) = ((done ++ hd :: rest).set (i : Int).toNat (GTask.mk (ah v1) (ah (inc v1)) (inc (inc v1)) hd.f3 hd.f4)).map (GTask.t .own)) (vh (by rfl)) <| AC (p := 0 ≤ (i : Int) ∧ (i : Int) < ((((done ++ hd :: rest).set (i : Int).toNat (GTask.mk (ah v1) (ah (inc v1)) (inc (inc v1)) hd.f3 hd.f4)).map (GTask.t .own)).length : Int)) (jA (gX hg)) <| AC (p := (((done ++ hd :: rest).set (i : Int).toNat (GTask.mk (ah v1) (ah (inc v1)) (inc (inc v1)) hd.f3 hd.f4)).map (GTask.t .own))[0 + (i : Int).toNat]? = some ((GTask.t .own) (GTask.mk (ah v1) (ah (inc v1)) (inc (inc v1)) hd.f3 hd.f4))) (eH (gX hg)) <| AC (p := (((done ++ hd :: rest).set (i : Int).toNat (GTask.mk (ah v1) (ah (inc v1)) (inc (inc v1)) hd.f3 hd.f4)).map (GTask.t .own)).set (0 + (i : Int).toNat) (ay ((GTask.t .own) (GTask.mk (ah v1) (ah (inc v1)) (inc (inc v1)) hd.f3 hd.f4)) 3 [tB ((Int.tmod (inc (inc (inc v1))) (3 : Int)) == (0 : Int))]) = ((done ++ hd :: rest).set (i : Int).toNat (GTask.mk (ah v1) (ah (inc v1)) (inc (inc v1)) ((Int.tmod (inc (inc (inc v1))) (3 : Int)) == (0 : Int)) hd.f4)).map (GTask.t .own)) (vh (by rfl)) <| AC (p := 0 ≤ (i : Int) ∧ (i : Int) < ((((done ++ hd :: rest).set (i : Int).toNat (GTask.mk (ah v1) (ah (inc v1)) (inc (inc v1)) ((Int.tmod (inc (inc (inc v1))) (3 : Int)) == (0 : Int)) hd.f4)).map (GTask.t .own)).length : Int)) (jA (gX hg)) <| AC (p := (((done ++ hd :: rest).set (i : Int).toNat (GTask.mk (ah v1) (ah (inc v1)) (inc (inc v1)) ((Int.tmod (inc (inc (inc v1))) (3 : Int)) == (0 : Int)) hd.f4)).map (GTask.t .own))[0 + (i : Int).toNat]? = some ((GTask.t .own) (GTask.mk (ah v1) (ah (inc v1)) (inc (inc v1)) ((Int.tmod (inc (inc (inc v1))) (3 : Int)) == (0 : Int)) hd.f4))) (eH (gX hg)) <| AC (p := (((done ++ hd :: rest).set (i : Int).toNat (GTask.mk (ah v1) (ah (inc v1)) (inc (inc v1)) ((Int.tmod (inc (inc (inc v1))) (3 : Int)) == (0 : Int)) hd.f4)).map (GTask.t .own))[0 + (i : Int).toNat]? = some ((GTask.t .own) (GTask.mk (ah v1) (ah (inc v1)) (inc (inc v1)) ((Int.tmod (inc (inc (inc v1))) (3 : Int)) == (0 : Int)) hd.f4))) (eH (gX hg)) <| AC (p := (hd.f4.map etS).length = (hd.f4.map etS).length) rfl <| AV (ψ := fun k => E.C k 65 [.one (.s .own () 1 (hd.f4.map etS)), .one (tI (inc (inc (inc (inc v1)))))] = some [(false, [.s .own () 1 (((aJ hd.f4 (inc (inc (inc (inc v1))))).1).map etS)]), (false, [tI ((aJ hd.f4 (inc (inc (inc (inc v1))))).2)])]) (wP hd.f4 (inc (inc (inc (inc v1)))) h4) <| AC (p := (((done ++ hd :: rest).set (i : Int).toNat (GTask.mk (ah v1) (ah (inc v1)) (inc (inc v1)) ((Int.tmod (inc (inc (inc v1))) (3 : Int)) == (0 : Int)) hd.f4)).map (GTask.t .own))[0 + (i : Int).toNat]? = some ((GTask.t .own) (GTask.mk (ah v1) (ah (inc v1)) (inc (inc v1)) ((Int.tmod (inc (inc (inc v1))) (3 : Int)) == (0 : Int)) hd.f4))) (eH (gX hg)) <| AC (p := (((done ++ hd :: rest).set (i : Int).toNat (GTask.mk (ah v1) (ah (inc v1)) (inc (inc v1)) ((Int.tmod (inc (inc (inc v1))) (3 : Int)) == (0 : Int)) hd.f4)).map (GTask.t .own)).set (0 + (i : Int).toNat) (((GTask.t .own) (GTask.mk (ah v1) (ah (inc v1)) (inc (inc v1)) ((Int.tmod (inc (inc (inc v1))) (3 : Int)) == (0 : Int)) hd.f4)).set 4 (.s .own () 1 (((aJ hd.f4 (inc (inc (inc (inc v1))))).1).map etS))) = ((done ++ hd :: rest).set (i : Int).toNat (GTask.mk (ah v1) (ah (inc v1)) (inc (inc v1)) ((Int.tmod (inc (inc (inc v1))) (3 : Int)) == (0 : Int)) ((aJ hd.f4 (inc (inc (inc (inc v1))))).1))).map (GTask.t .own)) (vh (by rfl)) <| AN); rw [hw, wG hi] at r; cases y <;> exact K6 r hy
noncomputable def eK (x0 : List GTask) (x1 : Int) : Option ((List GTask) × Int) :=
  if x0.length ≤ 9223372036854775807 then (d8 x0 [] 0 x1).bind fun y => match y with
   | .x0 w0_0 w0_1 => (some (w0_0, w0_1)) else none
theorem Af (x0 : List GTask) (x1 : Int) : Ans (eK x0 x1) (fun r => Does E 38 [.one (.s .own () 5 (x0.map (GTask.t .own))), .one (tI x1)] [(false, [.s .own () 5 (r.1.map (GTask.t .own))]), (false, [tI r.2])]) := by
 unfold eK
 refine La (fun hl1 => ?_)
 refine K9 (fun y hy => ?_)
 replace hy := yw x0 [] 0 x1 rfl hl1 y hy
 cases y with
 | x0 w0_0 w0_1 =>
  have h0 := hy
  exact K5 (K4 (fn := Tryz.f38) [.lp (.exit 0) (lM w0_0 w0_1)] _ rfl (fun _ => rfl) (fun k => by kernel_rfl) (AL h0 <| AN))
noncomputable def bf (x : List GTask) (k : Int) : (List GTask) × Int := (eK x k).getD ([], 0)
theorem zO (x0 : List GTask) (x1 : Int) (h : eK x0 x1 = some (bf x0 x1)) : Does E 38 [.one (.s .own () 5 (x0.map (GTask.t .own))), .one (tI x1)] [(false, [.s .own () 5 (((bf x0 x1).1).map (GTask.t .own))]), (false, [tI ((bf x0 x1).2)])] := by
 exact Af x0 x1 _ h
theorem rA : ∀ (rest done : List GTask) (i : Nat) (k : Int), (∀ y ∈ rest, ao.sm y) → 0 ≤ k → k + 1050004 * (rest.length : Int) ≤ 4611686018427387904 →
  ∃ new m, d8 rest done i k = some (.x0 (done ++ new) m) ∧ k ≤ m ∧ m ≤ k + 1050004 * (rest.length : Int) ∧ new.length = rest.length ∧ (∀ y ∈ new, ao.sm y)
 | [], done, i, k, _, h0, _ => ⟨[], k, by unfold d8; rw [List.append_nil], by omega, by simp, rfl, fun y hy => (by cases hy)⟩
 | x :: rest, done, i, k, h, h0, h1 => by
  have hx := h x (by simp)
  rw [List.length_cons] at h1 ⊢
  have t1 := oE k (by omega)
  have w1 : inc k = k + 1 := il _ (by omega) (by omega)
  have t2 := oE (k + 1) (by omega)
  have w2 : inc (k + 1) = (k + 1) + 1 := il _ (by omega) (by omega)
  have w3 : inc ((k + 1) + 1) = ((k + 1) + 1) + 1 := il _ (by omega) (by omega)
  have w4 : inc (((k + 1) + 1) + 1) = (((k + 1) + 1) + 1) + 1 := il _ (by omega) (by omega)
  have a5 := wz x.f4 ((((k + 1) + 1) + 1) + 1) hx.2.2 (by omega) (by omega)
  have d5 : decide ((aJ x.f4 ((((k + 1) + 1) + 1) + 1)).2 < (0 : Int)) = false := decide_eq_false (by omega)
  obtain ⟨new, m, g1, g2, g3, g4, g5⟩ := rA rest (done ++ [(GTask.mk (ah k) (ah (k + 1)) ((k + 1) + 1) ((Int.tmod (((k + 1) + 1) + 1) (3 : Int)) == (0 : Int)) (aJ x.f4 ((((k + 1) + 1) + 1) + 1)).1)]) (i + 1) ((aJ x.f4 ((((k + 1) + 1) + 1) + 1)).2) (fun y hy => h y (by simp [hy])) (by omega) (by omega)
  refine ⟨(GTask.mk (ah k) (ah (k + 1)) ((k + 1) + 1) ((Int.tmod (((k + 1) + 1) + 1) (3 : Int)) == (0 : Int)) (aJ x.f4 ((((k + 1) + 1) + 1) + 1)).1) :: new, m, ?_, by omega, by omega, by simp [g4], ?_⟩
  ·unfold d8
   simp only [t1.1, w1, t2.1, w2, w3, w4, a5.1, d5, if_true, g1, List.append_assoc, List.singleton_append]
  ·intro y hy
   rcases List.mem_cons.1 hy with rfl | hy
   ·exact ⟨t1.2, t2.2, a5.2.2.2.2.2⟩
   ·exact g5 y hy
theorem yG (l : List GTask) (k : Int) (h : ao.sm l) (h0 : 0 ≤ k) (h1 : k + 1102504200000 ≤ 4611686018427387904) : eK l k = some (bf l k) ∧ True ∧ True ∧ k ≤ (bf l k).2 ∧ (bf l k).2 ≤ k + 1102504200000 ∧ ao.sm (bf l k).1 := by
 have hl := h.1
 obtain ⟨new, m, g1, g2, g3, g4, g5⟩ := rA l [] 0 k h.2 h0 (by omega)
 have e : eK l k = some (new, m) := by unfold eK; rw [if_pos (iK h), g1]; rfl
 have p : bf l k = (new, m) := by unfold bf; rw [e]; rfl
 rw [p]
 exact ⟨e, trivial, trivial, g2, by omega, ⟨by show new.length ≤ 1050000; omega, g5⟩⟩
noncomputable def ek (x0 : GDag) (x1 : Int) : Option (GDag × Int) :=
  if eK x0.f5 x1 = some (bf x0.f5 x1) then some ((GDag.mk x0.f0 x0.f1 x0.f2 x0.f3 x0.f4 ((bf x0.f5 x1).1)), (bf x0.f5 x1).2) else none
theorem DX (x0 : GDag) (x1 : Int) : Ans (ek x0 x1) (fun r => Does E 18 [.agg (GDag.t .own .own x0), .one (tI x1)] [(true, GDag.t .own .own r.1), (false, [tI r.2])]) := by
 unfold ek
 refine La (fun h0 => ?_)
 exact K5 (K4 (fn := Tryz.f18) [.ret [(false, [.s .own () 5 (((bf x0.f5 x1).1).map (GTask.t .own))]), (false, [tI ((bf x0.f5 x1).2)])]] _ rfl (fun _ => rfl) (fun k => by kernel_rfl) (AV (ψ := fun k => E.C k 38 [.one (.s .own () 5 (x0.f5.map (GTask.t .own))), .one (tI x1)] = some [(false, [.s .own () 5 (((bf x0.f5 x1).1).map (GTask.t .own))]), (false, [tI ((bf x0.f5 x1).2)])]) (zO x0.f5 x1 h0) <| AN))
noncomputable def aq (x : GDag) (k : Int) : GDag × Int := (ek x k).getD (x, 0)
theorem db (x0 : GDag) (x1 : Int) (h : ek x0 x1 = some (aq x0 x1)) : Does E 18 [.agg (GDag.t .own .own x0), .one (tI x1)] [(true, GDag.t .own .own ((aq x0 x1).1)), (false, [tI ((aq x0 x1).2)])] := by
 exact DX x0 x1 _ h
theorem pO (x : GDag) (k : Int) (h : ao.sm x) (h0 : 0 ≤ k) (h1 : k + 1102504200000 ≤ 4611686018427387904) : ek x k = some (aq x k) ∧ True ∧ True ∧ k ≤ (aq x k).2 ∧ (aq x k).2 ≤ k + 1102504200000 ∧ ao.sm (aq x k).1 ∧ (GDag.mk x.f0 x.f1 x.f2 x.f3 x.f4 (((aq x k).1).f5)) = (aq x k).1 := by
 obtain ⟨hx0, hx1, hx5⟩ := h
 have a1 := yG x.f5 k hx5 (by omega) (by omega)
 have d1 : decide ((bf x.f5 k).2 < (0 : Int)) = false := decide_eq_false (by omega)
 have e : ek x k = some ((GDag.mk x.f0 x.f1 x.f2 x.f3 x.f4 (bf x.f5 k).1), ((bf x.f5 k).2)) := by unfold ek; simp only [a1.1, d1, if_true]
 have p : aq x k = ((GDag.mk x.f0 x.f1 x.f2 x.f3 x.f4 (bf x.f5 k).1), ((bf x.f5 k).2)) := by unfold aq; rw [e]; rfl
 rw [p]
 exact ⟨e, trivial, trivial, by omega, by omega, ⟨hx0, hx1, a1.2.2.2.2.2⟩, by first | rfl | simp only [a1.1, d1, if_true]⟩
inductive s9 where
 | x0 (v0 : List Int) (v1 : Int)
def lm (v0 : List Int) (v1 v5 : Int) : US := stL 19 [(0, .one (.s .own () 1 (v0.map etI))), (1, .one (tI v1)), (5, .one (tI v5))]
def mF (zv0 : List Int) (zv1 : Int) : US := stL 19 [(0, .one (.s .own () 1 (zv0.map etI))), (1, .one (tI zv1))]
abbrev s8 : US → Exit → US → Prop := Round E 19 (ax Tryz.f19 0)
def Ae (v0 : List Int) (v1 v5 : Int) : s9 → Prop
 | .x0 zv0 zv1 => Loops E 19 (ax Tryz.f19 0) (lm v0 v1 v5) (.exit 0) (mF zv0 zv1)
noncomputable def eJ  : List Int → List Int → Nat → Int → Option s9
 | [], done, i, v1 => some (.x0 done v1)
 | hd :: rest, done, i, v1 => eJ rest (done ++ [v1]) (i + 1) (inc v1)
theorem Ad  (rest : List Int) : ∀ (done : List Int) (i : Nat) (v1 : Int), i = done.length → (done ++ rest).length ≤ 9223372036854775807 → Ans (eJ rest done i v1) (Ae (done ++ rest) v1 (i : Int)) := by
 induction rest with
 | nil =>
  intro done i v1 hi hl
  rw [List.append_nil]
  have hb := Ca hi
  unfold eJ
  exact K5 (K7 (show s8 (lm done v1 (i : Int)) (.exit 0) (mF done v1) from K3 [.val (.int .i64 (done.length : Int)), .b false] _ (fun k => by kernel_rfl) (ALn done etI <| AC hb <| AN)) (by intro h; cases h))
 | cons hd rest ih =>
  intro done i v1 hi hl
  have hb := yE (hd := hd) (rest := rest) hi
  have hw := yF (hd := hd) (rest := rest) hi hl
  have hg := Cb (hd := hd) (rest := rest) hi
  unfold eJ
  exact (ih (done ++ [v1]) (i + 1) (inc v1) (by simp [hi]) (by simpa using hl)).mono fun y hy => by have r : s8 (lm (done ++ hd :: rest) v1 (i : Int)) .normal (lm ((done ++ hd :: rest).set (i : Int).toNat v1) (inc v1) (inc (i : Int))) := K3 [.val (.int .i64 ((done ++ hd :: rest).length : Int)), .b true, .row (etI hd), .rows (((done ++ hd :: rest).set (i : Int).toNat v1).map etI)] _ (fun k => by kernel_rfl) (ALn (done ++ hd :: rest) etI <| AC hb <| AG etI hg <| AC (p := ((done ++ hd :: rest).map etI).set (0 + (i : Int).toNat) (ay (etI hd) 0 [tI v1]) = ((done ++ hd :: rest).set (i : Int).toNat v1).map etI) (ea (by rfl)) <| AN); rw [hw, wG hi] at r; cases y <;> exact K6 r hy
noncomputable def dI (x0 : List Int) (x1 : Int) : Option ((List Int) × Int) :=
  if x0.length ≤ 9223372036854775807 then (eJ x0 [] 0 x1).bind fun y => match y with
   | .x0 w0_0 w0_1 => (some (w0_0, w0_1)) else none
theorem B2 (x0 : List Int) (x1 : Int) : Ans (dI x0 x1) (fun r => Does E 19 [.one (.s .own () 1 (x0.map etI)), .one (tI x1)] [(false, [.s .own () 1 (r.1.map etI)]), (false, [tI r.2])]) := by
 unfold dI
 refine La (fun hl1 => ?_)
 refine K9 (fun y hy => ?_)
 replace hy := Ad x0 [] 0 x1 rfl hl1 y hy
 cases y with
 | x0 w0_0 w0_1 =>
  have h0 := hy
  exact K5 (K4 (fn := Tryz.f19) [.lp (.exit 0) (mF w0_0 w0_1)] _ rfl (fun _ => rfl) (fun k => by kernel_rfl) (AL h0 <| AN))
inductive s7 where
 | ret (v4 : Int)
 | x0 (v1 : Int)
def gy (v0 : List Int) (v1 v5 : Int) : US := stL 21 [(0, .one (.s .far () 1 (v0.map etI))), (1, .one (tI v1)), (5, .one (tI v5))]
def lL (zv4 : Int) : US := stL 21 [(4, .one (tI zv4))]
def mE (zv1 : Int) : US := stL 21 [(1, .one (tI zv1))]
abbrev oA : US → Exit → US → Prop := Round E 20 (ax Tryz.f20 0)
def Ac (v0 : List Int) (v1 v5 : Int) : s7 → Prop
 | .ret zv4 => Loops E 20 (ax Tryz.f20 0) (gy v0 v1 v5) .ret (lL zv4)
 | .x0 zv1 => Loops E 20 (ax Tryz.f20 0) (gy v0 v1 v5) (.exit 0) (mE zv1)
noncomputable def fB  : List Int → Nat → Int → Option s7
 | [], i, v1 => some (.x0 v1)
 | hd :: rest, i, v1 => cond (hd != v1)
  (some (.ret (-1 : Int)))
  (fB rest (i + 1) (inc v1))
theorem Ab (v0 : List Int) (rest : List Int) : ∀ (i : Nat) (v1 : Int), (v0).drop i = rest → v0.length ≤ 9223372036854775807 → Ans (fB rest i v1) (Ac v0 v1 (i : Int)) := by
 induction rest with
 | nil =>
  intro i v1 hE hl
  have hb := bh hE
  unfold fB
  exact K5 (K7 (show oA (gy v0 v1 (i : Int)) (.exit 0) (mE v1) from K3 [.val (.int .i64 (v0.length : Int)), .b false] _ (fun k => by kernel_rfl) (ALn v0 etI <| AC hb <| AN)) (by intro h; cases h))
 | cons hd rest ih =>
  intro i v1 hE hl
  have hb := aS hE
  have hw := aT hE hl
  have hE2 := aG hE
  have hg := aX hE
  unfold fB
  refine K8 (fun h2 => ?_) (fun h2 => ?_)
  ·exact K5 (K7 (show oA (gy v0 v1 (i : Int)) .ret (lL (-1 : Int)) from K3 [.val (.int .i64 (v0.length : Int)), .b true, .row (etI hd), .b true] _ (fun k => by kernel_rfl) (ALn v0 etI <| AC hb <| AR etI hg <| AC h2 <| AN)) (by intro h; cases h))
  ·exact (ih (i + 1) (inc v1) hE2 hl).mono fun y hy => by have r : oA (gy v0 v1 (i : Int)) .normal (gy v0 (inc v1) (inc (i : Int))) := K3 [.val (.int .i64 (v0.length : Int)), .b true, .row (etI hd), .b false] _ (fun k => by kernel_rfl) (ALn v0 etI <| AC hb <| AR etI hg <| AC h2 <| AN); rw [hw] at r; cases y <;> exact K6 r hy
noncomputable def dH (x0 : List Int) (x1 : Int) : Option (Int) :=
  if x0.length ≤ 9223372036854775807 then (fB x0 0 x1).bind fun y => match y with
   | .ret w0_4 => (some (w0_4))
   | .x0 w0_1 => (some (w0_1)) else none
theorem B1 (x0 : List Int) (x1 : Int) : Ans (dH x0 x1) (fun r => Does E 20 [.one (.s .far () 1 (x0.map etI)), .one (tI x1)] [(false, [tI r])]) := by
 unfold dH
 refine La (fun hl1 => ?_)
 refine K9 (fun y hy => ?_)
 replace hy := Ab x0 x0 0 x1 rfl hl1 y hy
 cases y with
 | ret w0_4 =>
  have h0 := hy
  exact K5 (K4 (fn := Tryz.f20) [.lp .ret (lL w0_4)] _ rfl (fun _ => rfl) (fun k => by kernel_rfl) (AL h0 <| AN))
 | x0 w0_1 =>
  have h0 := hy
  exact K5 (K4 (fn := Tryz.f20) [.lp (.exit 0) (mE w0_1)] _ rfl (fun _ => rfl) (fun k => by kernel_rfl) (AL h0 <| AN))
noncomputable def ac (x : List Int) (k : Int) : (List Int) × Int := (dI x k).getD ([], 0)
noncomputable def aD (x : List Int) (k : Int) : Int := (dH x k).getD (-1)
theorem eo (x0 : List Int) (x1 : Int) (h : dI x0 x1 = some (ac x0 x1)) : Does E 19 [.one (.s .own () 1 (x0.map etI)), .one (tI x1)] [(false, [.s .own () 1 (((ac x0 x1).1).map etI)]), (false, [tI ((ac x0 x1).2)])] := by
 exact B2 x0 x1 _ h
theorem cC (x0 : List Int) (x1 : Int) (h : dH x0 x1 = some (aD x0 x1)) : Does E 20 [.one (.s .far () 1 (x0.map etI)), .one (tI x1)] [(false, [tI (aD x0 x1)])] := by
 exact B1 x0 x1 _ h
theorem tf : ∀ (rest done : List Int) (i : Nat) (k : Int), (∀ y ∈ rest, ao.sm y) → 0 ≤ k → k + 1 * (rest.length : Int) ≤ 4611686018427387904 →
  ∃ new m, eJ rest done i k = some (.x0 (done ++ new) m) ∧ k ≤ m ∧ m ≤ k + 1 * (rest.length : Int) ∧ new.length = rest.length ∧ (∀ y ∈ new, ao.sm y) ∧ ∀ j, fB new j k = some (.x0 m)
 | [], done, i, k, _, h0, _ => ⟨[], k, by unfold eJ; rw [List.append_nil], by omega, by simp, rfl, fun y hy => (by cases hy), fun j => rfl⟩
 | x :: rest, done, i, k, h, h0, h1 => by
  have hx := h x (by simp)
  rw [List.length_cons] at h1 ⊢
  have w1 : inc k = k + 1 := il _ (by omega) (by omega)
  obtain ⟨new, m, g1, g2, g3, g4, g5, g6⟩ := tf rest (done ++ [k]) (i + 1) (k + 1) (fun y hy => h y (by simp [hy])) (by omega) (by omega)
  refine ⟨k :: new, m, ?_, by omega, by omega, by simp [g4], ?_, fun j => ?_⟩
  ·unfold eJ
   simp only [w1, if_true, g1, List.append_assoc, List.singleton_append]
  ·intro y hy
   rcases List.mem_cons.1 hy with rfl | hy
   ·exact trivial
   ·exact g5 y hy
  ·unfold fB
   simp only [w1, if_true, bne_self_eq_false, BEq.rfl, Bool.not_true, cond_false, cond_true, g6]
theorem oD (l : List Int) (k : Int) (h : ao.sm l) (h0 : 0 ≤ k) (h1 : k + 1050000 ≤ 4611686018427387904) : dI l k = some (ac l k) ∧ dH (ac l k).1 k = some (aD (ac l k).1 k) ∧ aD (ac l k).1 k = (ac l k).2 ∧ k ≤ (ac l k).2 ∧ (ac l k).2 ≤ k + 1050000 ∧ ao.sm (ac l k).1 := by
 have hl := h.1
 obtain ⟨new, m, g1, g2, g3, g4, g5, g6⟩ := tf l [] 0 k h.2 h0 (by omega)
 have e : dI l k = some (new, m) := by unfold dI; rw [if_pos (iK h), g1]; rfl
 have p : ac l k = (new, m) := by unfold ac; rw [e]; rfl
 have e2 : dH new k = some m := by unfold dH; rw [if_pos (by omega), g6]; rfl
 have p2 : aD new k = m := by unfold aD; rw [e2]; rfl
 rw [p, p2]
 exact ⟨e, e2, rfl, g2, by omega, ⟨by show new.length ≤ 1050000; omega, g5⟩⟩
end Go.Proofs.YtjfbofdmjihglaaGreatDoor.Am
