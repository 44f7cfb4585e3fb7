/- An abstract machine over trees, and that its steps are sound, a part. Conditions: none. -/
import Derived.Test.YtohlonlaadmikaaAmb
import Derived.LoopN
namespace Go.Proofs.Ytohlonlaadmikaa.Am
set_option linter.unusedVariables false
set_option linter.unusedSimpArgs false
open Go

section
variable {δ β : Type}
/-- All slots but these are forgotten. -/
def forgetOne (l : List Nat) (D : St δ β) (t : Nat) : St δ β :=
  if l.contains t then D else match D[t]? with | some .any => D | some _ => putSl D (some t) .any | none => D
def forget (l : List Nat) (D : St δ β) : St δ β := (List.range D.length).foldl (forgetOne l) D
end
theorem er_forgetOne (l : List Nat) (D : DSt) (t : Nat) : erD (forgetOne l D t) = forgetOne l (erD D) t := by
  unfold forgetOne
  rw [er_get]
  split
  · rfl
  · cases D[t]? with
    | none => rfl
    | some s => cases s <;> first | rfl | exact er_putSl D (some t) .any
theorem er_foldl (l : List Nat) : ∀ (ts : List Nat) (D : DSt), erD (ts.foldl (forgetOne l) D) = ts.foldl (forgetOne l) (erD D)
  | [], D => rfl
  | t :: ts, D => by simp only [List.foldl_cons]; rw [er_foldl l ts, er_forgetOne]
theorem er_forget (l : List Nat) (D : DSt) : erD (forget l D) = forget l (erD D) := by
  unfold forget; rw [er_foldl, er_len]
theorem Inv.forgetOne {cx : Cx} {D : DSt} {tm : Array Value} {w : World} (I : Inv cx D [] tm w) (l : List Nat) (t : Nat) : Inv cx (forgetOne l D t) [] tm w := by
  unfold Am.forgetOne
  split
  · exact I
  · split
    · exact I
    · rename_i s h
      refine I.lose ?_
      rcases Nat.lt_or_ge t D.length with g | g
      · exact g
      · rw [List.getElem?_eq_none g] at h; cases h
    · exact I
theorem Inv.forgetL {cx : Cx} {tm : Array Value} {w : World} (l : List Nat) : ∀ (ts : List Nat) {D : DSt}, Inv cx D [] tm w → Inv cx (ts.foldl (Am.forgetOne l) D) [] tm w
  | [], D, I => I
  | t :: ts, D, I => by simp only [List.foldl_cons]; exact Inv.forgetL l ts (I.forgetOne l t)
theorem Inv.forget {cx : Cx} {D : DSt} {tm : Array Value} {w : World} (I : Inv cx D [] tm w) (l : List Nat) : Inv cx (forget l D) [] tm w := Inv.forgetL l _ I

/-- What helps a run: which values are handed over, and which slots are still wanted at a region. -/
structure Hint where
  take : Nat → Nat → Bool := fun _ _ => false
  keep : Nat → Option (List Nat) := fun _ => none
  head : Nat → Option (List Nat) := fun _ => none
  tail : Nat → Exit → Option (List Nat) := fun _ _ => none
  draw : Nat → Option (Nat × List (List Nat)) := fun _ => none

def nextK {R : Type} (g : US → Option R) (K : Exit → US → Option R) (e : Exit) (D : US) : Option R :=
  match e with | .normal => g D | e => K e D
def iterK {R : Type} (body : US → (Exit → US → Option R) → Option R) : Nat → US → (Exit → US → Option R) → Option R
  | 0, _, _ => none
  | m + 1, D, K => body D (nextK (fun D' => iterK body m D' K) K)
/-- The first region of code. -/
def headOf : Code → Option Nat
  | .region id _ _ => some id
  | .seq x y => match headOf x with | some i => some i | none => headOf y
  | .block _ c => headOf c
  | _ => none
/-- What is still wanted where a round of a loop begins. -/
def atHead {δ β : Type} (h : Hint) (c : Code) (D : St δ β) : St δ β :=
  match (headOf c).bind h.head with | some l => forget l D | none => D
theorem er_atHead (h : Hint) (c : Code) (D : DSt) : erD (atHead h c D) = atHead h c (erD D) := by
  unfold atHead
  split
  · exact er_forget _ D
  · rfl
theorem Inv.atHead {cx : Cx} {D : DSt} {tm : Array Value} {w : World} (I : Inv cx D [] tm w) (h : Hint) (c : Code) : Inv cx (atHead h c D) [] tm w := by
  unfold Am.atHead
  split
  · exact I.forget _
  · exact I
/-- What is still wanted where a loop has ended. -/
def atTail {δ β : Type} (h : Hint) (c : Code) (e : Exit) (D : St δ β) : St δ β :=
  match (headOf c).bind (h.tail · e) with | some l => forget l D | none => D
theorem er_atTail (h : Hint) (c : Code) (e : Exit) (D : DSt) : erD (atTail h c e D) = atTail h c e (erD D) := by
  unfold atTail
  split
  · exact er_forget _ D
  · rfl
theorem Inv.atTail {cx : Cx} {D : DSt} {tm : Array Value} {w : World} (I : Inv cx D [] tm w) (h : Hint) (c : Code) (e : Exit) : Inv cx (atTail h c e D) [] tm w := by
  unfold Am.atTail
  split
  · exact I.forget _
  · exact I
/-- The state where a round ends. -/
def canon {δ β : Type} (h : Hint) (c : Code) (e : Exit) (D : St δ β) : St δ β :=
  match e with | .normal => atHead h c D | e => atTail h c e D
theorem er_canon (h : Hint) (c : Code) (e : Exit) (D : DSt) : erD (canon h c e D) = canon h c e (erD D) := by
  unfold canon
  split
  · exact er_atHead h c D
  · exact er_atTail h c _ D
theorem Inv.canon {cx : Cx} {D : DSt} {tm : Array Value} {w : World} (I : Inv cx D [] tm w) (h : Hint) (c : Code) (e : Exit) : Inv cx (canon h c e D) [] tm w := by
  unfold Am.canon
  split
  · exact I.atHead h c
  · exact I.atTail h c _
/-- What code does. -/
def runC (tab : Tab) (fns : FuncId → Option Func) (C : Sem1) (h : Hint) (n : Nat) {R : Type} : Code → US → (Exit → US → Option R) → Option R
  | .skip, D, K => K .normal D
  | .region id ops draw, D, K =>
    match draw with
    | true => (match h.draw id with
      | some (m, anc) => runD tab fns C (h.take id) ops m anc (match h.keep id with | some l => forget l D | none => D)
      | none => none).bind fun D' => K .normal D'
    | false => (runOps tab fns C (h.take id) ops ops.toList 0 (match h.keep id with | some l => forget l D | none => D)).bind fun D' => K .normal D'
  | .seq x y, D, K => runC tab fns C h n x D fun e D' => match e with | .normal => runC tab fns C h n y D' K | e => K e D'
  | .cond c x y, D, K => match boolOf mkU D c with | some true => runC tab fns C h n x D K | some false => runC tab fns C h n y D K | none => none
  | .block id c, D, K => runC tab fns C h n c D fun e D' => match e with | .exit id' => if id' = id then K .normal D' else K (.exit id') D' | e => K e D'
  | .exit id, D, K => K (.exit id) D
  | .ret, D, K => K .ret D
  | .loop c, D, K => iterK (fun D K => runC tab fns C h n c D fun e D' => K e (canon h c e D')) n (atHead h c D) K
  | _, _, _ => none

/-- All operations of code. -/
def opsIn : Code → List Oper
  | .region _ ops _ => ops.toList
  | .seq x y => opsIn x ++ opsIn y
  | .cond _ x y => opsIn x ++ opsIn y
  | .block _ c => opsIn c
  | .loop c => opsIn c
  | _ => []
/-- No operation of it writes one of these slots. -/
def fixB (is : List Nat) (c : Code) : Bool := is.isEmpty || (opsIn c).all fun o => match o.dst with | some t => !is.contains t | none => true

theorem runC_sound {P : Program} {tab : Tab} (ok : TabOk P tab) {fns : FuncId → Option Func} (hf : FnsOk P fns) {C : Sem1} (hC : CallsOk P C) {h : Hint} {n : Nat} {R : Type} {cx : Cx} {T : Act → Prop} {r : R} :
    ∀ (c : Code) {K : Exit → US → Option R} {Q : Exit → Act → World → Prop}, (∀ o ∈ opsIn c, ∀ a y, T a → T (a.put o.dst y)) → (∀ e D' a' w', K e (erD D') = some r → T a' → Inv cx D' [] a'.tmps w' → Q e a' w') →
      ∀ {D : DSt} {a : Act} {w : World}, Inv cx D [] a.tmps w → T a → runC tab fns C h n c (erD D) K = some r → c.wp P Q a w
  | .skip, K, Q, hT, hQ, D, a, w, I, hd, e => wp_skip (hQ .normal D a w e hd I)
  | .region id ops draw, K, Q, hT, hQ, D, a, w, I, hd, e => by
    simp only [runC] at e
    cases draw with
    | true =>
      simp only at e
      rw [Option.bind_eq_some_iff] at e
      obtain ⟨U, e1, e2⟩ := e
      split at e1
      case h_2 => cases e1
      rename_i m anc hdr
      have key : ∀ D1, Inv cx D1 [] a.tmps w → Am.runD tab fns C (h.take id) ops m anc (erD D1) = some U → (Code.region id ops true).wp P Q a w := fun D1 I1 e1 =>
        Inv.runD (tk := h.take id) ok ok.mixed hf hC hT (fun D' a' w' h1 h2 h3 => hQ .normal D' a' w' (by rw [h1]; exact e2) h2 h3) I1 hd e1
      split at e1
      · rename_i l hl
        rw [← er_forget] at e1
        exact key _ (I.forget l) e1
      · exact key _ I e1
    | false =>
      simp only at e
      rw [Option.bind_eq_some_iff] at e
      obtain ⟨U, e1, e2⟩ := e
      refine wp_region_list ?_
      have key : ∀ D1, Inv cx D1 [] a.tmps w → Am.runOps tab fns C (h.take id) ops ops.toList 0 (erD D1) = some U → wpList P ops Q ops.toList a w := fun D1 I1 e1 =>
        Inv.runOps (tk := h.take id) ok hf hC (fun D' a' w' h1 h2 h3 => hQ .normal D' a' w' (by rw [h1]; exact e2) h2 h3) ops.toList 0 hT I1 hd e1
      split at e1
      · rename_i l hl
        rw [← er_forget] at e1
        exact key _ (I.forget l) e1
      · exact key _ I e1
  | .seq x y, K, Q, hT, hQ, D, a, w, I, hd, e => by
    simp only [runC] at e
    refine wp_seq (runC_sound ok hf hC x (fun o ho => hT o (List.mem_append.2 (.inl ho))) (fun e' D' a' w' h1 h2 h3 => ?_) I hd e)
    cases e' with
    | normal => exact runC_sound ok hf hC y (fun o ho => hT o (List.mem_append.2 (.inr ho))) hQ h3 h2 h1
    | _ => exact hQ _ D' a' w' h1 h2 h3
  | .cond c x y, K, Q, hT, hQ, D, a, w, I, hd, e => by
    simp only [runC, er_boolOf] at e
    split at e
    · rename_i hb
      exact wp_cond (I.boolOf hb) (runC_sound ok hf hC x (fun o ho => hT o (List.mem_append.2 (.inl ho))) hQ I hd e)
    · rename_i hb
      exact wp_cond (I.boolOf hb) (runC_sound ok hf hC y (fun o ho => hT o (List.mem_append.2 (.inr ho))) hQ I hd e)
    · cases e
  | .block id c, K, Q, hT, hQ, D, a, w, I, hd, e => by
    simp only [runC] at e
    refine wp_block (runC_sound ok hf hC c hT (fun e' D' a' w' h1 h2 h3 => ?_) I hd e)
    cases e' with
    | exit id' =>
      simp only [Exit.inBlock]
      simp only at h1
      split
      · rename_i hid
        rw [if_pos hid] at h1
        exact hQ .normal D' a' w' h1 h2 h3
      · rename_i hid
        rw [if_neg hid] at h1
        exact hQ _ D' a' w' h1 h2 h3
    | _ => exact hQ _ D' a' w' h1 h2 h3
  | .exit id, K, Q, hT, hQ, D, a, w, I, hd, e => wp_exit (hQ (.exit id) D a w e hd I)
  | .ret, K, Q, hT, hQ, D, a, w, I, hd, e => wp_ret (hQ .ret D a w e hd I)
  | .loop c, K, Q, hT, hQ, D, a, w, I, hd, e => by
    simp only [runC] at e
    refine wp_loop_rounds n ?_
    have key : ∀ (m : Nat) {D : DSt} {a : Act} {w : World}, Inv cx D [] a.tmps w → T a → iterK (fun D K => runC tab fns C h n c D fun e D' => K e (Am.canon h c e D')) m (erD D) K = some r → Code.rounds P c Q m a w := by
      intro m
      induction m with
      | zero => intro D a w I hd e; cases e
      | succ m ih =>
        intro D a w I hd e
        simp only [iterK] at e
        rw [rounds_succ]
        refine runC_sound ok hf hC c hT (fun e' D' a' w' h1 h2 h3 => ?_) I hd e
        rw [← er_canon] at h1
        have h3' := h3.canon h c e'
        cases e' with
        | normal => exact ih h3' h2 h1
        | _ => exact hQ _ _ a' w' h1 h2 h3'
    rw [← er_atHead] at e
    exact key n (I.atHead h c) hd e
  | .rangeFunc .., K, Q, hT, hQ, D, a, w, I, hd, e => by cases e
  | .scope _, K, Q, hT, hQ, D, a, w, I, hd, e => by cases e
  | .label _, K, Q, hT, hQ, D, a, w, I, hd, e => by cases e
  | .goto _, K, Q, hT, hQ, D, a, w, I, hd, e => by cases e
  | .refuse _, K, Q, hT, hQ, D, a, w, I, hd, e => by cases e
end Go.Proofs.Ytohlonlaadmikaa.Am
namespace Go.Proofs.Ytohlonlaadmikaa.Am
set_option linter.unusedVariables false
set_option linter.unusedSimpArgs false
open Go

section
variable {δ β : Type}
/-- A result, and the slot whose own it is. -/
def resOne (M : Mk δ β) (tab : Tab) (D : St δ β) : ResultVar → Option (Bool × List (T δ) × Nat)
  | .tmp t =>
    match D[t]? with
    | some (.one u) => some (false, [u], t)
    | some (.agg ts) => some (true, ts, t)
    | some (.al h c st lo len) =>
      if lo = 0 ∨ 0 < len then
        match cellAt D h c with
        | some u => if u.isOwn then match getN u st with | some (.s .own d z rows) => some (false, [.s .own (M.win d lo z) z ((rows.drop lo).take len)], h) | _ => none else none
        | none => none
      else none
    | _ => none
  | .cell a t =>
    match D[a]?, tab.ti t with
    | some (.box _ ts), some ti => if ts.length = ti.size ∧ ti.sh ≠ .other ∧ (ti.sh.agg = false → ts.length = 1) then some (ti.sh.agg, ts, a) else none
    | _, _ => none
def resL (M : Mk δ β) (tab : Tab) (D : St δ β) : List ResultVar → Option (List (Bool × List (T δ) × Nat))
  | [] => some []
  | r :: rs => (resOne M tab D r).bind fun x => (resL M tab D rs).map fun xs => x :: xs
def ownAny (r : Bool × List (T δ) × Nat) : Bool := r.2.1.any T.isOwn
end

abbrev erT (r : Bool × List DT × Nat) : Bool × List (T Unit) × Nat := (r.1, erL r.2.1, r.2.2)
theorem er_resOne (tab : Tab) (D : DSt) (r : ResultVar) : resOne mkU tab (erD D) r = (resOne mkD tab D r).map erT := by
  cases r with
  | tmp t =>
    simp only [resOne, er_get]
    cases D[t]? with
    | none => rfl
    | some s =>
      cases s with
      | al h c st lo len =>
        simp only [Option.map_some, Sl.er]
        split
        · rw [er_cellAt]
          cases cellAt D h c with
          | none => rfl
          | some u =>
            simp only [Option.map_some, er_isOwn]
            split
            · rw [er_getN]
              cases getN u st with
              | none => rfl
              | some n =>
                cases n with
                | s k d z rows =>
                  cases k with
                  | own => simp only [Option.map_some, er_s, erT]; rw [← er_win]; rfl
                  | _ => simp [er_s]
                | _ => rfl
            · rfl
        · rfl
      | _ => rfl
  | cell a t =>
    simp only [resOne, er_get]
    cases D[a]? with
    | none => rfl
    | some s =>
      cases s with
      | box b ts =>
        cases tab.ti t with
        | none => rfl
        | some ti => simp only [Option.map_some, Sl.er, List.length_map]; split <;> rfl
      | _ => rfl
theorem er_resL (tab : Tab) (D : DSt) : ∀ rs, resL mkU tab (erD D) rs = (resL mkD tab D rs).map (List.map erT)
  | [] => rfl
  | r :: rs => by
    simp only [resL, er_resOne, er_resL tab D rs]
    cases resOne mkD tab D r with
    | none => rfl
    | some x =>
      simp only [Option.map_some, Option.bind_some]
      cases resL mkD tab D rs <;> rfl
theorem er_anyL (f : DT → Bool) (g : T Unit → Bool) (h : ∀ t, g t.er = f t) (ts : List DT) : (erL ts).any g = ts.any f := by
  simp only [erL, List.any_map]; congr 1; funext t; exact h t
/-- What was handed over, and where it lies. -/
def homesOf {δ β : Type} : Nat → List (Sl δ β) → List (Nat × HK)
  | _, [] => []
  | k, a :: as => match hkOf a with | some q => (k, q) :: homesOf (k + 1) as | none => homesOf (k + 1) as
section
variable {δ β : Type}
def outOne (D : St δ β) (p : Nat × HK) : Option (Bool × List (T δ)) :=
  match p.2, D[p.1]? with
  | .box, some (.box _ ts) => some (true, ts)
  | .one, some (.one u) => some (false, [u])
  | .agg, some (.agg ts) => some (true, ts)
  | _, _ => none
def outsL (D : St δ β) : List (Nat × HK) → Option (List (Bool × List (T δ)))
  | [] => some []
  | p :: ps => (outOne D p).bind fun x => (outsL D ps).map fun xs => x :: xs
/-- What a function leaves. -/
def endG (M : Mk δ β) (tab : Tab) (D : St δ β) (hs : List (Nat × HK)) (rs : List ResultVar) : Option (List (Bool × List (T δ))) :=
  (outsL D hs).bind fun os => (resL M tab D rs).bind fun l =>
    if (os.all fun r => r.2.all T.fine) = true ∧ (l.all fun r => r.2.1.all T.fine) = true ∧ (hs.map (·.1) ++ (l.filter ownAny).map (·.2.2)).Nodup then some (os ++ l.map fun r => (r.1, r.2.1)) else none
end
theorem er_hkOf (s : DSl) : hkOf s.er = hkOf s := by
  cases s with
  | one u => simp only [Sl.er, hkOf, er_isOwn]
  | agg ts =>
    simp only [Sl.er, hkOf]
    rw [show (List.map T.er ts).any T.isOwn = ts.any T.isOwn by rw [List.any_map]; congr 1; funext t; exact er_isOwn t]
  | _ => rfl
theorem er_homesOf : ∀ (k : Nat) (ad : List DSl), homesOf k (ad.map Sl.er) = homesOf k ad
  | _, [] => rfl
  | k, a :: as => by
    simp only [List.map_cons, homesOf, er_hkOf, er_homesOf (k + 1) as]
theorem er_outOne (D : DSt) (p : Nat × HK) : outOne (erD D) p = (outOne D p).map fun r => (r.1, erL r.2) := by
  obtain ⟨i, k⟩ := p
  simp only [outOne, er_get]
  cases D[i]? with
  | none => cases k <;> rfl
  | some s => cases s <;> cases k <;> rfl
theorem er_outsL (D : DSt) : ∀ ps, outsL (erD D) ps = (outsL D ps).map erR
  | [] => rfl
  | p :: ps => by
    simp only [outsL, er_outOne, er_outsL D ps]
    cases outOne D p with
    | none => rfl
    | some x =>
      simp only [Option.map_some, Option.bind_some]
      cases outsL D ps <;> rfl
theorem er_endG (tab : Tab) (D : DSt) (hs : List (Nat × HK)) (rs : List ResultVar) : endG mkU tab (erD D) hs rs = (endG mkD tab D hs rs).map erR := by
  unfold endG
  rw [er_outsL, er_resL]
  cases outsL D hs with
  | none => rfl
  | some os =>
    simp only [Option.map_some, Option.bind_some]
    cases resL mkD tab D rs with
    | none => rfl
    | some l =>
      simp only [Option.map_some, Option.bind_some]
      have h0 : ((erR os).all fun r => r.2.all T.fine) = (os.all fun r => r.2.all T.fine) := by
        unfold erR
        rw [List.all_map]
        congr 1; funext r
        exact er_all T.fine T.fine er_fine r.2
      have h1 : ((l.map erT).all fun r => r.2.1.all T.fine) = (l.all fun r => r.2.1.all T.fine) := by
        rw [List.all_map]
        congr 1; funext r
        exact er_all T.fine T.fine er_fine r.2.1
      have h2 : ((l.map erT).filter ownAny).map (·.2.2) = (l.filter ownAny).map (·.2.2) := by
        rw [List.filter_map, List.map_map]
        have : (ownAny ∘ erT : Bool × List DT × Nat → Bool) = ownAny := by
          funext r; exact er_anyL T.isOwn T.isOwn er_isOwn r.2.1
        rw [this]; rfl
      rw [h0, h1, h2]
      split
      · simp only [Option.map_some, erR_append]
        congr 2
        unfold erR
        rw [List.map_map, List.map_map]; rfl
      · rfl

/-- What a result is. -/
structure ResOk (P : Program) (D : DSt) (tm : Array Value) (w : World) (r : ResultVar) (x : Bool × List DT × Nat) (y : Value) : Prop where
  run : (match r with | .tmp t => (pure (tm.getD t undef) : Sem Value) | .cell a t => do loadVar t (← asAddr (tm.getD a undef))).run P w = .ok y w
  part : VPart (x.1, x.2.1) y
  holds : ∀ t ∈ x.2.1, Holds w t
  own : ∀ t ∈ x.2.1, t.isOwn = true → OwnT w t
  home : ∃ s, D[x.2.2]? = some s ∧ ∀ b, (x.2.1.flatMap ownR).count b ≤ (ownBl s).count b

theorem Inv.resOne {P : Program} {tab : Tab} (ok : TabOk P tab) {cx : Cx} {D : DSt} {tm : Array Value} {w : World} (I : Inv cx D [] tm w) {r : ResultVar} {x : Bool × List DT × Nat}
    (e : resOne mkD tab D r = some x) : ∃ y, ResOk P D tm w r x y := by
  cases r with
  | tmp t =>
    simp only [Am.resOne] at e
    split at e
    · rename_i u h
      cases e
      have hv := I.val t _ h
      have hm := I.mem _ (List.mem_of_getElem? h)
      exact ⟨_, ⟨rfl, ⟨u, rfl, hv⟩, fun v hv' => hm.1 v (by simpa [rootsOf] using hv'), fun v hv' => hm.2.1 v (by simpa [rootsO] using hv'), _, h, fun b => by simp [ownBl]⟩⟩
    · rename_i ts h
      cases e
      have hv := I.val t _ h
      have hm := I.mem _ (List.mem_of_getElem? h)
      exact ⟨_, ⟨rfl, hv, hm.1, hm.2.1, _, h, fun b => Nat.le_refl _⟩⟩
    · rename_i h c st lo len hD
      split at e
      case isFalse => cases e
      rename_i hcond
      split at e
      case h_2 => cases e
      rename_i u hu
      split at e
      case isFalse => cases e
      rename_i ho
      split at e
      case h_2 => cases e
      rename_i d z rows hg
      cases e
      have hv := I.val t _ hD
      obtain ⟨d', z', n, ad, ⟨t1, q1, q2, k2, rows2, q3, q4⟩, hle, hy, ha, ha0⟩ := hv
      rw [hu] at q1; cases q1
      rw [hg] at q3; cases q3
      obtain ⟨s, hs, hsm, hr, hr', hsub⟩ := cellAt_mem hu
      have hm := I.mem s hsm
      have g5 := Holds.getN st (hm.1 u hr) hg
      have g6 := OwnT.getN st (hm.2.1 u hr' ho) hg
      refine ⟨_, ⟨rfl, ⟨_, rfl, ?_⟩, fun v hv' => ?_, fun v hv' _ => ?_, s, hs, fun b => ?_⟩⟩
      · rw [hy]
        exact VT_win (by omega) g5.cap g6.sp rfl ha ha0 g5.nilrows hcond
      · simp at hv'; subst hv'; exact g5.win lo len (by omega)
      · simp at hv'; subst hv'; exact g6.win lo len (by omega)
      · have h1 := bl_win_count (k := .own) (k' := .own) (d := d) (z := z) rows lo len b
        have h2 := bl_getN_count st hg b
        have h3 : (bl u).count b ≤ (ownBl s).count b := by
          unfold cellAt at hu
          simp only [Option.bind_eq_some_iff] at hu
          obtain ⟨cs, ⟨s', hs', hcs⟩, ht⟩ := hu
          rw [hs] at hs'; cases hs'
          have h4 := ownBl_home hcs b
          have h5 := count_set ownR (T.any : DT) b cs c u ht
          have h6 : (ownR (T.any : DT)).count b = 0 := rfl
          have h7 : ownR u = bl u := by simp [ownR, ho]
          rw [h7] at h5
          omega
        simp only [List.flatMap_cons, List.flatMap_nil, List.append_nil, ownR, T.isOwn, if_true]
        omega
    · cases e
  | cell a t =>
    simp only [Am.resOne] at e
    split at e
    · rename_i b ts ti hD hti
      split at e
      case isFalse => cases e
      rename_i hc
      cases e
      have hv := I.val a _ hD
      have hm := I.mem _ (List.mem_of_getElem? hD)
      have C : Cells w b.1 b.2 ts := ⟨hm.2.2.1, hm.1⟩
      obtain ⟨y, h1, h2⟩ := C.load (Tab.ok ok hti) hc.2.1 hc.1 hc.2.2
      have hy : tm.getD a undef = .pointer (some ⟨b.1, b.2, none⟩) := hv
      refine ⟨y, ⟨?_, ?_, hm.1, hm.2.1, _, hD, fun x => ?_⟩⟩
      · show ((do loadVar t (← asAddr (tm.getD a undef))) : Sem Value).run P w = _
        rw [hy]
        exact h1
      · unfold VPart
        simp only
        split at h2
        · rename_i ha; rw [if_pos ha]; exact h2
        · rename_i ha; rw [if_neg ha]; exact h2
      · simp only [ownBl, List.count_cons]; omega
    · cases e
end Go.Proofs.Ytohlonlaadmikaa.Am
namespace Go.Proofs.Ytohlonlaadmikaa.Am
set_option linter.unusedVariables false
set_option linter.unusedSimpArgs false
open Go

def resSem (tm : Array Value) : ResultVar → Sem Value
  | .tmp t => pure (tm.getD t undef)
  | .cell a t => do loadVar t (← asAddr (tm.getD a undef))
theorem Inv.resL {P : Program} {tab : Tab} (ok : TabOk P tab) {cx : Cx} {D : DSt} {tm : Array Value} {w : World} (I : Inv cx D [] tm w) : ∀ {rs : List ResultVar} {l : List (Bool × List DT × Nat)},
    resL mkD tab D rs = some l → ∃ ys : List Value, ys.length = l.length ∧ (rs.mapM (resSem tm)).run P w = .ok ys w ∧ ∀ (i : Nat) (x : Bool × List DT × Nat) (y : Value), l[i]? = some x → ys[i]? = some y → ∃ r, ResOk P D tm w r x y
  | [], l, e => by cases e; exact ⟨[], rfl, by simp, fun i x y h => by simp at h⟩
  | r :: rs, l, e => by
    simp only [Am.resL, Option.bind_eq_some_iff, Option.map_eq_some_iff] at e
    obtain ⟨x, h1, xs, h2, rfl⟩ := e
    obtain ⟨y, hy⟩ := I.resOne ok h1
    obtain ⟨ys, g1, g2, g3⟩ := Inv.resL ok I h2
    refine ⟨y :: ys, by simp [g1], ?_, fun i x' y' hi hy' => ?_⟩
    · have hr : (resSem tm r).run P w = .ok y w := by
        have := hy.run
        cases r <;> exact this
      simp [List.mapM_cons, hr, g2]
    · cases i with
      | zero => simp at hi hy'; subst hi; subst hy'; exact ⟨r, hy⟩
      | succ i => simp at hi hy'; exact g3 i x' y' hi hy'

def retVal : List Value → Value
  | [y] => y
  | ys => .tuple ys.toArray
theorem run_results {P : Program} (fn : Func) (tm : Array Value) (w : World) {ys : List Value} (h : (fn.results.toList.mapM (resSem tm)).run P w = .ok ys w) :
    (results fn tm).run P w = .ok (retVal ys) w := by
  have e : results fn tm = (do let vs ← fn.results.mapM (resSem tm); pure (if h : vs.size = 1 then vs[0] else .tuple vs)) := by
    unfold results
    congr 1
  rw [e, Array.mapM_eq_mapM_toList]
  simp only [Sem.run_bind, Sem.run_map, h]
  match ys with
  | [] => simp [retVal]
  | [y] => simp [retVal]
  | y :: y' :: ys => simp [retVal]

/-- Slots that differ do not share. -/
theorem own_sum : ∀ (l : List (List Nat × Nat)) (D : DSt), (l.map (·.2)).Nodup → (∀ x ∈ l, ∃ s, D[x.2]? = some s ∧ ∀ b, x.1.count b ≤ (ownBl s).count b) → ∀ b, (l.flatMap (·.1)).count b ≤ cntD D b
  | [], D, _, _, b => by simp
  | x :: l, D, hn, h, b => by
    rw [List.map_cons, List.nodup_cons] at hn
    obtain ⟨hn1, hn2⟩ := hn
    obtain ⟨s, hs, hc⟩ := h x (by simp)
    have h1 := count_set ownBl (Sl.any : DSl) b D x.2 s hs
    have h0 : (ownBl (Sl.any : DSl)).count b = 0 := rfl
    have h2 := own_sum l (D.set x.2 .any) hn2 (fun y hy => by
      obtain ⟨s', hs', hc'⟩ := h y (by simp [hy])
      have hne : x.2 ≠ y.2 := fun e => hn1 (by rw [e]; exact List.mem_map.2 ⟨y, hy, rfl⟩)
      exact ⟨s', by rw [List.getElem?_set_ne hne]; exact hs', hc'⟩) b
    have h3 := hc b
    rw [List.flatMap_cons, List.count_append]
    unfold cntD at *
    omega
theorem own_filter (l : List (Bool × List DT × Nat)) : (l.flatMap fun r => r.2.1.flatMap ownR) = ((l.filter ownAny).flatMap fun r => r.2.1.flatMap ownR) := by
  induction l with
  | nil => rfl
  | cons y l' ih =>
    by_cases hy : ownAny y = true
    · rw [List.filter_cons_of_pos hy, List.flatMap_cons, List.flatMap_cons, ih]
    · rw [List.filter_cons_of_neg hy, List.flatMap_cons, ih]
      have : y.2.1.flatMap ownR = [] := by
        rw [List.flatMap_eq_nil_iff]
        intro t ht
        refine ownR_not ?_
        cases ho : t.isOwn with
        | false => rfl
        | true => exact absurd (by unfold ownAny; rw [List.any_eq_true]; exact ⟨t, ht, ho⟩) hy
      rw [this]; rfl
/-- What was handed over, as it lies there at the end. -/
theorem outs_ok {cx : Cx} {D : DSt} {tm : Array Value} {w : World} (I : Inv cx D [] tm w) {w0 : World} {X : List Nat} : ∀ (ad : List DSl) (vs : List Value) (k : Nat) {os : DRes}, ad.length = vs.length →
    (∀ (i : Nat) (a : DSl) (y : Value), ad[i]? = some a → vs[i]? = some y → AOk w0 X a y) → outsL D (homesOf k ad) = some os →
    (∀ (i : Nat) (a : DSl) (y : Value), ad[i]? = some a → vs[i]? = some y → (hkOf a).isSome = true → tm.getD (k + i) undef = y) →
    OutsOk w ad vs os ∧ (∀ r ∈ os, ∃ s ∈ D, ∀ t ∈ r.2, t ∈ rootsO s ∧ t ∈ rootsOf s) ∧ (∀ p ∈ homesOf k ad, p.1 < D.length) ∧
      ∀ b, (resBl os).count b + (ad.flatMap boxBl).count b ≤ (((homesOf k ad).map fun p => (ownBl (D[p.1]?.getD .any), p.1)).flatMap (·.1)).count b
  | [], vs, k, os, _, _, e, _ => by
    cases e
    refine ⟨?_, fun r h => (by cases h), fun p h => (by cases h), fun b => by simp [resBl]⟩
    cases vs <;> exact rfl
  | a :: as, [], k, os, hl, _, _, _ => by simp at hl
  | a :: as, y :: ys, k, os, hl, hA, e, hT => by
    have ih := fun {os} => outs_ok I (w0 := w0) (X := X) as ys (k + 1) (os := os) (by simpa using hl) (fun i a' y' h1 h2 => hA (i + 1) a' y' (by simpa using h1) (by simpa using h2))
    have hT' : ∀ (i : Nat) (a : DSl) (y : Value), as[i]? = some a → ys[i]? = some y → (hkOf a).isSome = true → tm.getD (k + 1 + i) undef = y := fun i a' y' h1 h2 h3 => by
      rw [show k + 1 + i = k + (i + 1) by omega]
      exact hT (i + 1) a' y' (by simpa using h1) (by simpa using h2) h3
    unfold homesOf at e ⊢
    cases hk : hkOf a with
    | none =>
      rw [hk] at e
      obtain ⟨i1, i2, i3, i4⟩ := ih e hT'
      have hb : boxBl a = [] := by cases a <;> first | rfl | cases hk
      refine ⟨?_, i2, i3, fun b => ?_⟩
      · unfold OutsOk; rw [hk]; exact i1
      · rw [List.flatMap_cons, hb, List.nil_append]; exact i4 b
    | some q =>
      rw [hk] at e
      simp only [outsL, Option.bind_eq_some_iff, Option.map_eq_some_iff] at e
      obtain ⟨o, e1, os', e2, rfl⟩ := e
      obtain ⟨i1, i2, i3, i4⟩ := ih e2 hT'
      have hy : tm.getD k undef = y := hT 0 a y rfl rfl (by rw [hk]; rfl)
      have hAk := hA 0 a y rfl rfl
      have key : OutOk w a y o ∧ ∃ s, D[k]? = some s ∧ (∀ t ∈ o.2, t ∈ rootsO s ∧ t ∈ rootsOf s) ∧ ∀ b, (o.2.flatMap ownR).count b + (boxBl a).count b ≤ (ownBl s).count b := by
        unfold outOne at e1
        split at e1
        · rename_i b' ts' hq hD
          cases e1
          have hb : ∃ b ts, a = .box b ts := hkOf_box (by rw [hk]; exact congrArg some hq)
          obtain ⟨b, ts, rfl⟩ := hb
          have v1 : y = .pointer (some ⟨b.1, b.2, none⟩) := hAk.val D
          have v2 : tm.getD k undef = .pointer (some ⟨b'.1, b'.2, none⟩) := I.val k _ hD
          rw [hy, v1] at v2
          simp only [Value.pointer.injEq, Option.some.injEq, Addr.mk.injEq] at v2
          have hbb : b' = b := by obtain ⟨p1, p2⟩ := b; obtain ⟨p3, p4⟩ := b'; simp at v2; simp [v2.1, v2.2]
          subst hbb
          have hm := I.mem _ (List.mem_of_getElem? hD)
          exact ⟨⟨rfl, hm.2.2.1, hm.2.2.2⟩, _, hD, fun t ht => ⟨ht, ht⟩, fun x => by simp only [ownBl, boxBl, List.count_cons, List.count_nil]; omega⟩
        · rename_i u hq hD
          cases e1
          have hb : ∃ u, a = .one u := hkOf_one (by rw [hk]; exact congrArg some hq)
          obtain ⟨u0, rfl⟩ := hb
          have v2 := I.val k _ hD
          rw [hy] at v2
          exact ⟨⟨⟨u, rfl, v2⟩, rfl⟩, _, hD, fun t ht => ⟨by simpa [rootsO] using ht, by simpa [rootsOf] using ht⟩, fun x => by simp [ownBl, boxBl]⟩
        · rename_i ts hq hD
          cases e1
          have hb : ∃ u, a = .agg u := hkOf_agg (by rw [hk]; exact congrArg some hq)
          obtain ⟨u0, rfl⟩ := hb
          have v2 := I.val k _ hD
          rw [hy] at v2
          exact ⟨⟨v2, rfl⟩, _, hD, fun t ht => ⟨ht, ht⟩, fun x => by simp [ownBl, boxBl]⟩
        · cases e1
      obtain ⟨k1, s, k2, k3, k4⟩ := key
      refine ⟨?_, fun r hr => ?_, fun p hp => ?_, fun b => ?_⟩
      · unfold OutsOk; rw [hk]; exact ⟨o, os', rfl, k1, i1⟩
      · rcases List.mem_cons.1 hr with rfl | hr
        · exact ⟨s, List.mem_of_getElem? k2, k3⟩
        · exact i2 r hr
      · rcases List.mem_cons.1 hp with rfl | hp
        · exact lt_of_get k2
        · exact i3 p hp
      · have h1 := k4 b
        have h2 := i4 b
        simp only [resBl, List.flatMap_cons, List.map_cons, List.count_append, k2, Option.getD_some] at *
        omega

theorem Inv.ends {P : Program} {tab : Tab} (ok : TabOk P tab) {D : DSt} {tm : Array Value} {w0 w : World} {X : List Nat} (I : Inv ⟨w0, X⟩ D [] tm w) {ad : List DSl} {vs : List Value} (hA : ArgsOk w0 X ad vs)
    (hT : ∀ (i : Nat) (a : DSl) (y : Value), ad[i]? = some a → vs[i]? = some y → (hkOf a).isSome = true → tm.getD i undef = y) {fn : Func} {all : DRes}
    (e : endG mkD tab D (homesOf 0 ad) fn.results.toList = some all) : ∃ v od rd, all = od ++ rd ∧ (results fn tm).run P w = .ok v w ∧ OutsOk w ad vs od ∧ RetOk w0 X w (ad.flatMap boxBl) od rd v := by
  unfold endG at e
  rw [Option.bind_eq_some_iff] at e
  obtain ⟨os, h0, e⟩ := e
  rw [Option.bind_eq_some_iff] at e
  obtain ⟨l, h1, e⟩ := e
  split at e
  case isFalse => cases e
  rename_i hc
  cases e
  obtain ⟨hfo, hfine, hnd⟩ := hc
  obtain ⟨o1, o2, o3, o4⟩ := outs_ok I ad vs 0 hA.1 hA.2.1 h0 (fun i a y q1 q2 q3 => by rw [Nat.zero_add]; exact hT i a y q1 q2 q3)
  obtain ⟨ys, g1, g2, g3⟩ := I.resL ok h1
  have hget : ∀ x ∈ l, ∃ (i : Nat) (y : Value) (r : ResultVar), l[i]? = some x ∧ ys[i]? = some y ∧ ResOk P D tm w r x y := by
    intro x hx
    obtain ⟨i, hi⟩ := List.getElem?_of_mem hx
    have hlt : i < ys.length := by
      rw [g1]
      exact lt_of_get hi
    obtain ⟨r, hr⟩ := g3 i x ys[i] hi (List.getElem?_eq_getElem hlt)
    exact ⟨i, ys[i], r, hi, List.getElem?_eq_getElem hlt, hr⟩
  have hmem : ∀ r ∈ l.map (fun r => (r.1, r.2.1)), ∃ x ∈ l, r = (x.1, x.2.1) := fun r hr => by
    obtain ⟨x, hx, rfl⟩ := List.mem_map.1 hr
    exact ⟨x, hx, rfl⟩
  have hflat : resBl (l.map fun r => (r.1, r.2.1)) = l.flatMap fun r => r.2.1.flatMap ownR := by
    unfold resBl
    rw [List.flatMap_map]
  have hsum := own_sum (((homesOf 0 ad).map fun p => (ownBl (D[p.1]?.getD .any), p.1)) ++ (l.filter ownAny).map fun r => (r.2.1.flatMap ownR, r.2.2)) D
    (by rw [List.map_append, List.map_map, List.map_map]; exact hnd) (fun x hx => by
      rcases List.mem_append.1 hx with hx | hx
      · obtain ⟨p, hp, rfl⟩ := List.mem_map.1 hx
        have := o3 p hp
        exact ⟨D[p.1], List.getElem?_eq_getElem this, fun b => by rw [List.getElem?_eq_getElem this]; exact Nat.le_refl _⟩
      · obtain ⟨r, hr, rfl⟩ := List.mem_map.1 hx
        obtain ⟨i, y, r', _, _, hr'⟩ := hget r (List.mem_filter.1 hr).1
        exact hr'.home)
  have htot : ∀ b, (resBl (os ++ l.map fun r => (r.1, r.2.1))).count b + (ad.flatMap boxBl).count b ≤ cntD D b := by
    intro b
    have q1 := hsum b
    have q2 := o4 b
    rw [List.flatMap_append, List.count_append] at q1
    rw [resBl_append, List.count_append, hflat, own_filter]
    have q3 : ((l.filter ownAny).map fun r => (r.2.1.flatMap ownR, r.2.2)).flatMap (·.1) = (l.filter ownAny).flatMap fun r => r.2.1.flatMap ownR := by rw [List.flatMap_map]
    rw [q3] at q1
    omega
  refine ⟨_, os, _, rfl, run_results fn tm w g2, o1, ⟨?_, ?_, ?_, ?_, ?_, ?_⟩⟩
  · have hp : ∀ (i : Nat) (r : Bool × List DT) (y : Value), (l.map fun r => (r.1, r.2.1))[i]? = some r → ys[i]? = some y → VPart r y := by
      intro i r y hi hy
      rw [List.getElem?_map, Option.map_eq_some_iff] at hi
      obtain ⟨x, hx, rfl⟩ := hi
      obtain ⟨r', hr'⟩ := g3 i x y hx hy
      exact hr'.part
    match ys, l, g1, hp with
    | [y], [x], _, hp => exact .inl ⟨_, rfl, hp 0 _ y rfl rfl⟩
    | [], [], _, hp => exact .inr ⟨by simp, ⟨#[], rfl, rfl, fun i r v h => by simp at h⟩⟩
    | y :: y' :: ys, x :: x' :: l, hl, hp =>
      refine .inr ⟨by simp, ⟨(y :: y' :: ys).toArray, rfl, by simp at hl ⊢; omega, fun i r v hi hv => hp i r v hi hv⟩⟩
    | [], x :: l, hl, _ => simp at hl
    | y :: ys, [], hl, _ => simp at hl
    | [y], x :: x' :: l, hl, _ => simp at hl
    | y :: y' :: ys, [x], hl, _ => simp at hl
  · intro r hr t ht
    rcases List.mem_append.1 hr with hr | hr
    · exact List.all_eq_true.1 (List.all_eq_true.1 hfo r hr) t ht
    · obtain ⟨x, hx, rfl⟩ := hmem r hr
      exact List.all_eq_true.1 (List.all_eq_true.1 hfine x hx) t ht
  · intro r hr t ht
    rcases List.mem_append.1 hr with hr | hr
    · obtain ⟨s, q1, q2⟩ := o2 r hr
      exact (I.mem s q1).1 t (q2 t ht).2
    · obtain ⟨x, hx, rfl⟩ := hmem r hr
      obtain ⟨i, y, r', _, _, hr'⟩ := hget x hx
      exact hr'.holds t ht
  · intro r hr t ht ho
    rcases List.mem_append.1 hr with hr | hr
    · obtain ⟨s, q1, q2⟩ := o2 r hr
      exact (I.mem s q1).2.1 t (q2 t ht).1 ho
    · obtain ⟨x, hx, rfl⟩ := hmem r hr
      obtain ⟨i, y, r', _, _, hr'⟩ := hget x hx
      exact hr'.own t ht ho
  · intro b
    have q1 := htot b
    have q2 := I.once b
    omega
  · intro b hb
    have q1 := htot b
    have q3 : 0 < cntD D b := by
      have := List.count_pos_iff.2 hb
      omega
    exact I.bnd b (by omega)
end Go.Proofs.Ytohlonlaadmikaa.Am
namespace Go.Proofs.Ytohlonlaadmikaa.Am
set_option linter.unusedVariables false
set_option linter.unusedSimpArgs false
open Go

def endOf (tab : Tab) (fn : Func) (hs : List (Nat × HK)) : Exit → US → Option URes
  | .normal, D => endG mkU tab D hs fn.results.toList
  | .ret, D => endG mkU tab D hs fn.results.toList
  | _, _ => none
/-- What a function does: the machine itself. -/
def runF (tab : Tab) (fns : FuncId → Option Func) (hints : FuncId → Hint) (orc : Sem1) : Nat → Sem1
  | 0 => fun _ _ => none
  | k + 1 => fun f as =>
    match orc f as with
    | some r => some r
    | none =>
      match fns f with
      | some fn =>
        match fn.body with
        | some c => if fixB ((homesOf 0 as).map (·.1)) c = true then runC tab fns (runF tab fns hints orc k) (hints f) k c (as ++ List.replicate (fn.ntmps - as.length) .any) (endOf tab fn (homesOf 0 as)) else none
        | none => none
      | none => none

theorem Inv.enter {w : World} {X : List Nat} {ad : List DSl} {vs : List Value} (h : ArgsOk w X ad vs) (n : Nat) : Inv ⟨w, X⟩ (ad ++ List.replicate n .any) [] (vs.toArray ++ Array.replicate n undef) w := by
  obtain ⟨hl, ha, hone⟩ := h
  have hget : ∀ s ∈ ad ++ List.replicate n (.any : DSl), s = .any ∨ ∃ (i : Nat) (y : Value), ad[i]? = some s ∧ vs[i]? = some y ∧ AOk w X s y := by
    intro s hs
    rcases List.mem_append.1 hs with hs | hs
    · right
      obtain ⟨i, hi⟩ := List.getElem?_of_mem hs
      have hlt : i < vs.length := by
        rw [← hl]; exact lt_of_get hi
      exact ⟨i, vs[i], hi, List.getElem?_eq_getElem hlt, ha i s _ hi (List.getElem?_eq_getElem hlt)⟩
    · left; exact List.eq_of_mem_replicate hs
  have hown : ∀ b, cntD (ad ++ List.replicate n (.any : DSl)) b = (ad.flatMap ownBl).count b := by
    intro b
    unfold cntD
    rw [List.flatMap_append, List.count_append]
    have : (List.replicate n (.any : DSl)).flatMap ownBl = [] := by
      rw [List.flatMap_eq_nil_iff]
      intro s hs
      rw [List.eq_of_mem_replicate hs]; rfl
    rw [this]; rfl
  refine ⟨by simp [hl], fun t s hs => ?_, fun s hs => ?_, fun s hs => ?_, fun p hp => (by cases hp), fun b => by rw [hown, cntP_nil]; exact hone b, fun b hb => ?_, ⟨rfl, rfl, rfl, Nat.le_refl _, fun b _ => rfl⟩⟩
  · rcases Nat.lt_or_ge t ad.length with g | g
    · rw [List.getElem?_append_left g] at hs
      have hlt : t < vs.length := by omega
      have := (ha t s vs[t] hs (List.getElem?_eq_getElem hlt)).val (ad ++ List.replicate n .any)
      have e : (vs.toArray ++ Array.replicate n undef).getD t undef = vs[t] := by
        rw [Array.getD_eq_getD_getElem?, Array.getElem?_append_left (by simpa using hlt)]
        simp [hlt]
      rw [e]; exact this
    · rw [List.getElem?_append_right g] at hs
      have := List.mem_of_getElem? hs
      rw [List.eq_of_mem_replicate this]; trivial
  · rcases hget s hs with rfl | ⟨i, y, _, _, h⟩
    · exact ⟨fun u hu => by simp [rootsOf] at hu, fun u hu => by simp [rootsO] at hu, trivial⟩
    · exact h.mem
  · rcases hget s hs with rfl | ⟨i, y, _, _, h⟩
    · exact fun u hu => by simp [rootsOf] at hu
    · exact h.kind _
  · rw [hown, cntP_nil, Nat.add_zero] at hb
    obtain ⟨s, hs, hb⟩ := List.mem_flatMap.1 (List.count_pos_iff.1 hb)
    rcases hget s (List.mem_append.2 (.inl hs)) with rfl | ⟨i, y, _, _, h⟩
    · simp [ownBl] at hb
    · have := h.own b hb
      exact ⟨.inr this.1, this.2⟩
theorem homesOf_mem : ∀ (ad : List DSl) (k i : Nat) (a : DSl), ad[i]? = some a → (hkOf a).isSome = true → k + i ∈ (homesOf k ad).map (·.1)
  | [], k, i, a, h, _ => by simp at h
  | a :: as, k, 0, a', h, hk => by
    simp at h; subst h
    unfold homesOf
    cases hq : hkOf a with
    | none => rw [hq] at hk; cases hk
    | some q => simp
  | a :: as, k, i + 1, a', h, hk => by
    have := homesOf_mem as (k + 1) i a' (by simpa using h) hk
    unfold homesOf
    rw [show k + (i + 1) = k + 1 + i by omega]
    cases hq : hkOf a with
    | none => exact this
    | some q => exact List.mem_cons_of_mem _ this

/-- The machine tells what calls do. -/
theorem runF_sound {P : Program} {tab : Tab} (ok : TabOk P tab) {fns : FuncId → Option Func} (hf : FnsOk P fns) (hints : FuncId → Hint) {orc : Sem1} (ho : CallsOk P orc) : ∀ k, CallsOk P (runF tab fns hints orc k)
  | 0 => fun f as rs h => by cases h
  | k + 1 => fun f as rs h w X ad vs he hA => by
    simp only [runF] at h
    split at h
    · rename_i r hr
      cases h
      exact ho f as _ hr w X ad vs he hA
    · split at h
      case h_2 => cases h
      rename_i fn hfn
      split at h
      case h_2 => cases h
      rename_i c hc
      split at h
      case isFalse => cases h
      rename_i hfix
      obtain ⟨p1, p2, p3⟩ := hf f fn hfn
      have hl : as.length = vs.length := by rw [← he, List.length_map]; exact hA.1
      have hh : homesOf 0 as = homesOf 0 ad := by rw [← he, er_homesOf]
      have he' : as ++ List.replicate (fn.ntmps - as.length) (.any : Sl Unit Unit) = erD (ad ++ List.replicate (fn.ntmps - vs.length) .any) := by
        rw [hl, ← he]
        simp [erD, Sl.er]
      rw [he', hh] at h
      rw [hh] at hfix
      refine calls_of_wp p1 hc ?_
      have I := Inv.enter hA (fn.ntmps - vs.length)
      have hsz : vs.toArray.size = vs.length := by simp
      have hT : ∀ o ∈ opsIn c, ∀ (a : Act) (y : Value), (a.defers = [] ∧ ∀ (i : Nat) (s : DSl) (v : Value), ad[i]? = some s → vs[i]? = some v → (hkOf s).isSome = true → a.tmps.getD i undef = v) →
          ((a.put o.dst y).defers = [] ∧ ∀ (i : Nat) (s : DSl) (v : Value), ad[i]? = some s → vs[i]? = some v → (hkOf s).isSome = true → (a.put o.dst y).tmps.getD i undef = v) := by
        rintro o ho a y ⟨t1, t2⟩
        refine ⟨by unfold Act.put; split <;> exact t1, fun i s v q1 q2 q3 => ?_⟩
        cases hd : o.dst with
        | none => exact t2 i s v q1 q2 q3
        | some t =>
          have hi := homesOf_mem ad 0 i s q1 q3
          rw [Nat.zero_add] at hi
          have hne : t ≠ i := by
            rintro rfl
            unfold fixB at hfix
            rw [Bool.or_eq_true] at hfix
            rcases hfix with hfix | hfix
            · rw [List.isEmpty_iff] at hfix
              rw [hfix] at hi; cases hi
            · have := List.all_eq_true.1 hfix o ho
              rw [hd] at this
              simp only [Bool.not_eq_true', List.contains_eq_mem, decide_eq_false_iff_not] at this
              exact this hi
          show (a.tmps.setIfInBounds t y).getD i undef = v
          rw [Array.getD_eq_getD_getElem?, Array.getElem?_setIfInBounds_ne hne, ← Array.getD_eq_getD_getElem?]
          exact t2 i s v q1 q2 q3
      have hT0 : ∀ (i : Nat) (s : DSl) (v : Value), ad[i]? = some s → vs[i]? = some v → (hkOf s).isSome = true → (vs.toArray ++ Array.replicate (fn.ntmps - vs.toArray.size) undef).getD i undef = v := by
        intro i s v _ q2 _
        have hlt := lt_of_get q2
        rw [Array.getD_eq_getD_getElem?, Array.getElem?_append_left (by simpa using hlt)]
        simp [q2]
      refine runC_sound (T := fun a => a.defers = [] ∧ ∀ (i : Nat) (s : DSl) (v : Value), ad[i]? = some s → vs[i]? = some v → (hkOf s).isSome = true → a.tmps.getD i undef = v) (r := rs) ok hf (runF_sound ok hf hints ho k) c hT (fun e D' a' w' h1 h2 h3 => ?_)
        (a := { tmps := vs.toArray ++ Array.replicate (fn.ntmps - vs.toArray.size) undef, defers := [] }) (by rw [hsz]; exact I) ⟨rfl, hT0⟩ h
      have key : endG mkU tab (erD D') (homesOf 0 ad) fn.results.toList = some rs → a'.defers = [] ∧ ∃ v, (Go.results fn a'.tmps).run P w' = .ok v w' ∧ ∃ v' od rd, Ending.returned v = .returned v' ∧ GrewH X w w' ∧ erR (od ++ rd) = rs ∧ OutsOk w' ad vs od ∧ RetOk w X w' (ad.flatMap boxBl) od rd v' := by
        intro h1
        rw [er_endG] at h1
        obtain ⟨all, h1', rfl⟩ := Option.map_eq_some_iff.1 h1
        obtain ⟨v, od, rd, rfl, g1, g2, g3⟩ := h3.ends ok hA h2.2 h1'
        exact ⟨h2.1, v, g1, v, od, rd, rfl, ⟨h3.frame.os, h3.frame.tape, h3.frame.output, h3.frame.size, fun b hb hn => h3.frame.same b ⟨hb, hn⟩⟩, rfl, g2, g3⟩
      cases e with
      | normal => exact key h1
      | ret => exact key h1
      | _ => cases h1
end Go.Proofs.Ytohlonlaadmikaa.Am
