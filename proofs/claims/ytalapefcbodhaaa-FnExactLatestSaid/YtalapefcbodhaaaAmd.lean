/- An abstract machine over trees, and that its steps are sound, a part. Conditions: none. -/
import Derived.Test.YtalapefcbodhaaaAmb
import Derived.Orders
import Derived.LoopN
namespace Go.Proofs.Ytalapefcbodhaaa.Am
set_option linter.unusedVariables false
set_option linter.unusedSimpArgs false
open Go

section
variable {δ β : Type}
def T.rootOf : T δ → Option (Nat × Nat)
  | .s (.lent h c true) _ _ _ => some (h, c)
  | _ => none
def rootIn : Nat → List (T δ) → Option (Nat × Nat × Nat)
  | _, [] => none
  | j, u :: us => match u.rootOf with | some (h, c) => some (h, c, j) | none => rootIn (j + 1) us
def mixL : List (T δ) → List (T δ) → List (T δ)
  | t :: ts, u :: us => (if t.isOwn = true then t else u) :: mixL ts us
  | _, _ => []
def rootsB (h : Nat) : Nat → List (T δ) → List (T δ) → Bool
  | _, [], [] => true
  | j, t :: ts, u :: us => (if t.isOwn = true then decide (u.rootOf = some (h, j)) else (u.noLent && !u.isOwn)) && rootsB h (j + 1) ts us
  | _, _, _ => false
def aggNode (D : St δ β) (ts : List (T δ)) (h c j : Nat) : Option (Sl δ β × St δ β) :=
  match cellAt D h c with
  | some (.s .own d z rows) =>
    if ((ts.set j .any).all T.noLent = true ∧ (ts.set j .any).any T.isOwn = false) then (updAt (fun _ => some .any) (St.dead (atHC h c) (qHC h c) D) h c []).map fun D' => (.agg (ts.set j (.s .own d z rows)), D') else none
  | _ => none
def homeTake (D : St δ β) (x : Operand) : Option (Sl δ β × St δ β) :=
  match x with
  | .tmp t =>
    match D[t]? with
    | some (.box b ts) => if ts.all T.noLent = true then some (.box b ts, giveUp t D) else none
    | some (.pb h off) =>
      if off = 0 then
        match D[h]? with
        | some (.box b ts) => if ts.all T.noLent = true then some (.box b ts, giveUp h D) else none
        | _ => none
      else none
    | some (.al h c st lo len) =>
      match nodeAt D h c st with
      | some (.s .own d z rows) => if lo = 0 ∧ len = rows.length then (updAt (fun _ => some .any) (St.dead (atHC h c) (qHC h c) D) h c st).map fun D' => (.one (.s .own d z rows), D') else none
      | _ => none
    | some (.one u) => if u.isOwn = true then some (.one u, giveUp t D) else
      match u.rootOf with
      | some (h, c) =>
        match cellAt D h c with
        | some (.s .own d z rows) => (updAt (fun _ => some .any) (St.dead (atHC h c) (qHC h c) D) h c []).map fun D' => (.one (.s .own d z rows), D')
        | _ => none
      | none => none
    | some (.agg ts) => if ts.all T.noLent = true then (if ts.any T.isOwn = true then some (.agg ts, giveUp t D) else none) else
      match rootIn 0 ts with
      | some (h, c, j) =>
        match D[h]? with
        | some (.box _ bs) => if rootsB h 0 bs ts = true ∧ bs.all T.noLent = true ∧ (mixL bs ts).any T.isOwn = true then some (.agg (mixL bs ts), giveUp h D) else aggNode D ts h c j
        | _ => aggNode D ts h c j
      | none => none
    | _ => none
  | _ => none
def setRows (rows : List (List (T δ))) : T δ → Option (T δ)
  | .s k d z _ => some (.s k d z rows)
  | _ => none
def mixR : List (T δ) → List (T δ) → List (T δ)
  | t :: ts, u :: us => (if t.isOwn = true then u else t) :: mixR ts us
  | _, _ => []
def nodePut (D : St δ β) (h c : Nat) (u : T δ) : Option (St δ β) :=
  match cellAt D h c, u with
  | some (.s _ _ z _), .s .own _ z' rows' => if z' = z then updAt (setRows rows') (St.dead (atHC h c) (qDeep h c) D) h c [] else none
  | _, _ => none
def homePut0 (D D1 : St δ β) (x : Operand) (o : Bool × List (T δ)) : Option (St δ β) :=
  match x with
  | .tmp t =>
    match D[t]? with
    | some (.box b _) => some (putSl D1 (some t) (.box b o.2))
    | some (.pb h _) =>
      match D[h]? with
      | some (.box b _) => some (putSl D1 (some h) (.box b o.2))
      | _ => none
    | some (.al h c st _ _) =>
      match nodeAt D h c st, o.2 with
      | some (.s _ _ z _), [.s .own _ z' rows'] => if z' = z then updAt (setRows rows') (St.dead (atHC h c) (qDeep h c) D) h c st else none
      | _, _ => none
    | some (.one u) =>
      match o.2 with
      | [.s .own d z rows] => if u.isOwn = true then some (putSl D1 (some t) (.one (.s .own d z rows))) else
        match u.rootOf with
        | some (h, c) => nodePut D h c (.s .own d z rows)
        | none => none
      | _ => none
    | some (.agg ts) => if ts.all T.noLent = true then some (putSl D1 (some t) (.agg o.2)) else
      match rootIn 0 ts with
      | some (h, c, j) =>
        match D[h]? with
        | some (.box b bs) => if rootsB h 0 bs ts = true ∧ bs.all T.noLent = true ∧ (mixL bs ts).any T.isOwn = true then some (putSl D1 (some h) (.box b (mixR bs o.2))) else (o.2[j]?).bind (nodePut D h c)
        | _ => (o.2[j]?).bind (nodePut D h c)
      | none => none
    | _ => none
  | _ => none
end

theorem er_rootOf (t : DT) : t.er.rootOf = t.rootOf := by
  cases t with
  | v x => rfl
  | any => rfl
  | s k d z r =>
    rw [er_s]
    cases k with
    | lent h c fl => cases fl <;> rfl
    | _ => rfl
theorem er_rootIn : ∀ (j : Nat) (us : List DT), rootIn j (erL us) = rootIn j us
  | _, [] => rfl
  | j, u :: us => by
    simp only [erL, List.map_cons, rootIn, er_rootOf]
    cases u.rootOf with
    | some p => rfl
    | none => exact er_rootIn (j + 1) us
theorem er_mixL : ∀ (ts us : List DT), erL (mixL ts us) = mixL (erL ts) (erL us)
  | [], us => by cases us <;> rfl
  | t :: ts, [] => rfl
  | t :: ts, u :: us => by
    have ih := er_mixL ts us
    simp only [erL, List.map_cons, mixL, er_isOwn] at ih ⊢
    rw [ih]
    cases t.isOwn <;> rfl
theorem er_mixR : ∀ (ts us : List DT), erL (mixR ts us) = mixR (erL ts) (erL us)
  | [], us => by cases us <;> rfl
  | t :: ts, [] => rfl
  | t :: ts, u :: us => by
    have ih := er_mixR ts us
    simp only [erL, List.map_cons, mixR, er_isOwn] at ih ⊢
    rw [ih]
    cases t.isOwn <;> rfl
theorem er_rootsB (h : Nat) : ∀ (j : Nat) (ts us : List DT), rootsB h j (erL ts) (erL us) = rootsB h j ts us
  | _, [], [] => rfl
  | _, [], u :: us => rfl
  | _, t :: ts, [] => rfl
  | j, t :: ts, u :: us => by
    have ih := er_rootsB h (j + 1) ts us
    simp only [erL, List.map_cons, rootsB, er_isOwn, er_rootOf, er_noLent] at ih ⊢
    rw [ih]
theorem er_anyOwn (ts : List DT) : (erL ts).any T.isOwn = ts.any T.isOwn := by
  simp only [erL, List.any_map]; congr 1; funext t; exact er_isOwn t
theorem er_allNoLent (ts : List DT) : (erL ts).all T.noLent = ts.all T.noLent := er_all T.noLent T.noLent er_noLent ts
theorem er_setAny (ts : List DT) (j : Nat) (u : DT) : (erL ts).set j u.er = erL (ts.set j u) := by simp [erL, List.map_set]
theorem er_hole1 (D : DSt) (h c : Nat) : updAt (fun _ => some .any) (St.dead (atHC h c) (qHC h c) (erD D)) h c [] = (updAt (fun _ => some .any) (St.dead (atHC h c) (qHC h c) D) h c []).map erD := by
  rw [show St.dead (atHC h c) (qHC h c) (erD D) = erD (St.dead (atHC h c) (qHC h c) D) from (erD_dead _ _ D).symm, er_updAt (f := fun _ => some .any) (fun _ => rfl)]
theorem er_aggNode (D : DSt) (ts : List DT) (h c j : Nat) : aggNode (erD D) (erL ts) h c j = (aggNode D ts h c j).map fun r => (r.1.er, erD r.2) := by
  unfold aggNode
  rw [er_cellAt]
  cases cellAt D h c with
  | none => rfl
  | some n =>
    cases n with
    | v x => rfl
    | any => rfl
    | s k d z rows =>
      cases k with
      | own =>
        simp only [Option.map_some, er_s]
        rw [show (erL ts).set j (T.any : T Unit) = erL (ts.set j .any) from er_setAny ts j .any, er_allNoLent, er_anyOwn]
        split
        · rw [er_hole1, Option.map_map, Option.map_map]
          congr 1
          funext D'
          simp only [Function.comp, Sl.er]
          rw [← er_setAny, er_s]
        · rfl
      | _ => simp [er_s]
theorem er_nodePut (D : DSt) (h c : Nat) (u : DT) : nodePut (erD D) h c u.er = (nodePut D h c u).map erD := by
  unfold nodePut
  rw [er_cellAt]
  cases cellAt D h c with
  | none => rfl
  | some n =>
    cases n with
    | v x => rfl
    | any => rfl
    | s k d z rows =>
      simp only [Option.map_some, er_s]
      cases u with
      | v x => rfl
      | any => rfl
      | s k' d' z' rows' =>
        rw [er_s]
        cases k' with
        | own =>
          simp only
          split
          · rw [show St.dead (atHC h c) (qDeep h c) (erD D) = erD (St.dead (atHC h c) (qDeep h c) D) from (erD_dead _ _ D).symm, er_updAt (f := setRows rows')]
            intro t
            cases t <;> simp [setRows, er_s, er_v, er_any]
          · rfl
        | _ => rfl

theorem er_homeTake (D : DSt) (x : Operand) : homeTake (erD D) x = (homeTake D x).map fun r => (r.1.er, erD r.2) := by
  cases x with
  | tmp t =>
    simp only [homeTake, er_get]
    cases D[t]? with
    | none => rfl
    | some s =>
      cases s with
      | box b ts =>
        simp only [Option.map_some, Sl.er]
        rw [er_all T.noLent T.noLent er_noLent]
        split
        · simp only [Option.map_some, er_giveUp, Sl.er]
        · rfl
      | pb h off =>
        simp only [Option.map_some, Sl.er, er_get]
        split
        · cases D[h]? with
          | none => rfl
          | some s =>
            cases s with
            | box b ts =>
              simp only [Option.map_some, Sl.er]
              rw [er_all T.noLent T.noLent er_noLent]
              split
              · simp only [Option.map_some, er_giveUp, Sl.er]
              · rfl
            | _ => rfl
        · rfl
      | al h c st lo len =>
        simp only [Option.map_some, Sl.er, er_nodeAt]
        cases nodeAt D h c st with
        | none => rfl
        | some n =>
          cases n with
          | v x => rfl
          | any => rfl
          | s k d z rows =>
            cases k with
            | own =>
              simp only [Option.map_some, er_s, List.length_map]
              split
              · rw [show St.dead (atHC h c) (qHC h c) (erD D) = erD (St.dead (atHC h c) (qHC h c) D) from (erD_dead _ _ D).symm, er_updAt (f := fun _ => some .any) (fun _ => rfl), Option.map_map, Option.map_map]
                congr 1
                funext D'
                simp [Sl.er, er_s]
              · rfl
            | _ => simp [er_s]
      | one u =>
        simp only [Option.map_some, Sl.er, er_isOwn]
        split
        · simp only [Option.map_some, er_giveUp, Sl.er]
        · rw [er_rootOf]
          cases u.rootOf with
          | none => rfl
          | some p =>
            obtain ⟨h, c⟩ := p
            simp only [er_cellAt]
            cases cellAt D h c with
            | none => rfl
            | some n =>
              cases n with
              | v x => rfl
              | any => rfl
              | s k d z rows =>
                cases k with
                | own =>
                  simp only [Option.map_some, er_s]
                  rw [er_hole1, Option.map_map, Option.map_map]
                  congr 1
                  funext D'
                  simp [Sl.er, er_s]
                | _ => simp [er_s]
      | agg ts =>
        simp only [Option.map_some, Sl.er]
        rw [er_allNoLent, er_anyOwn, er_rootIn]
        split
        · split
          · simp only [Option.map_some, er_giveUp, Sl.er]
          · rfl
        · cases rootIn 0 ts with
          | none => rfl
          | some p =>
            obtain ⟨h, c, j⟩ := p
            simp only [er_get]
            cases D[h]? with
            | none => exact er_aggNode D ts h c j
            | some s =>
              cases s with
              | box b bs =>
                simp only [Option.map_some, Sl.er]
                rw [er_rootsB, er_allNoLent, ← er_mixL, er_anyOwn]
                split
                · simp only [Option.map_some, er_giveUp, Sl.er]
                · exact er_aggNode D ts h c j
              | _ => exact er_aggNode D ts h c j
      | _ => rfl
  | _ => rfl
theorem er_homePut0 (D D1 : DSt) (x : Operand) (o : Bool × List DT) : homePut0 (erD D) (erD D1) x (o.1, erL o.2) = (homePut0 D D1 x o).map erD := by
  cases x with
  | tmp t =>
    simp only [homePut0, er_get]
    cases D[t]? with
    | none => rfl
    | some s =>
      cases s with
      | box b ts => simp only [Option.map_some, Sl.er, er_putSl]
      | pb h off =>
        simp only [Option.map_some, Sl.er, er_get]
        cases D[h]? with
        | none => rfl
        | some s => cases s <;> first | rfl | simp only [Option.map_some, Sl.er, er_putSl]
      | al h c st lo len =>
        simp only [Option.map_some, Sl.er, er_nodeAt]
        cases nodeAt D h c st with
        | none => rfl
        | some n =>
          cases n with
          | v x => rfl
          | any => rfl
          | s k d z rows =>
            simp only [Option.map_some, er_s]
            obtain ⟨g, us⟩ := o
            match us with
            | [] => rfl
            | [.v x] => rfl
            | [.any] => rfl
            | [.s .far d' z' rows'] => simp [er_s]
            | [.s (.lent _ _ _) d' z' rows'] => simp [er_s]
            | [.s .own d' z' rows'] =>
              simp only [List.map_cons, List.map_nil, er_s]
              split
              · rw [show St.dead (atHC h c) (qDeep h c) (erD D) = erD (St.dead (atHC h c) (qDeep h c) D) from (erD_dead _ _ D).symm, er_updAt (f := setRows rows')]
                intro t
                cases t <;> simp [setRows, er_s, er_v, er_any]
              · rfl
            | u :: u' :: us =>
              cases u with
              | v x => rfl
              | any => rfl
              | s k d z r => cases k <;> rfl
      | one u =>
        simp only [Option.map_some, Sl.er]
        obtain ⟨g, us⟩ := o
        match us with
        | [] => rfl
        | [.v x] => rfl
        | [.any] => rfl
        | [.s .far d' z' rows'] => simp [er_s]
        | [.s (.lent _ _ _) d' z' rows'] => simp [er_s]
        | [.s .own d' z' rows'] =>
          simp only [List.map_cons, List.map_nil, er_s, er_isOwn, er_rootOf]
          split
          · simp [er_s, er_putSl, Sl.er]
          · cases u.rootOf with
            | none => rfl
            | some p =>
              have := er_nodePut D p.1 p.2 (.s .own d' z' rows')
              rw [er_s] at this
              exact this
        | u :: u' :: us =>
          cases u with
          | v x => rfl
          | any => rfl
          | s k d z r => cases k <;> rfl
      | agg ts =>
        simp only [Option.map_some, Sl.er, er_allNoLent, er_rootIn]
        split
        · simp only [Option.map_some, Sl.er, er_putSl]
        · have hb : ∀ (h c j : Nat), ((erL o.2)[j]?).bind (nodePut (erD D) h c) = ((o.2[j]?).bind (nodePut D h c)).map erD := by
            intro h c j
            simp only [erL, List.getElem?_map]
            cases o.2[j]? with
            | none => rfl
            | some u => exact er_nodePut D h c u
          cases rootIn 0 ts with
          | none => rfl
          | some p =>
            obtain ⟨h, c, j⟩ := p
            simp only [er_get]
            cases D[h]? with
            | none => exact hb h c j
            | some s =>
              cases s with
              | box b bs =>
                simp only [Option.map_some, Sl.er]
                rw [er_rootsB, er_allNoLent, ← er_mixL, er_anyOwn]
                split
                · simp only [Option.map_some, er_putSl, Sl.er, er_mixR]
                · exact hb h c j
              | _ => exact hb h c j
      | _ => rfl
  | _ => rfl

theorem giveUp_len {δ β : Type} (t : Nat) (D : St δ β) : (giveUp t D).length = D.length := by simp [giveUp, St.dead]
theorem lt_of_get {α : Type} {l : List α} {t : Nat} {x : α} (h : l[t]? = some x) : t < l.length := by
  rcases Nat.lt_or_ge t l.length with g | g
  · exact g
  · rw [List.getElem?_eq_none g] at h; cases h
theorem cntD_giveUp {D : DSt} {t : Nat} {s : DSl} (h : D[t]? = some s) (b : Nat) : cntD (giveUp t D) b + (ownBl s).count b = cntD D b := by
  have hs : (quietOf t D)[t]? = some (s.clean t) := by
    unfold quietOf
    rw [List.getElem?_map]
    unfold St.dead
    rw [List.getElem?_map, h]
    rfl
  have h1 := count_set ownBl (.any : DSl) b (quietOf t D) t _ hs
  have h2 : (ownBl (.any : DSl)).count b = 0 := rfl
  have h3 := cntD_quiet t D b
  rw [ownBl_clean] at h1
  have h4 : giveUp t D = (quietOf t D).set t .any := rfl
  rw [h4]
  unfold cntD at *
  omega
theorem setSame {tm : Array Value} {t : Nat} (ht : t < tm.size) : tm.setIfInBounds t (tm.getD t undef) = tm := by
  apply Array.ext
  · simp
  · intro i h1 h2
    rw [Array.getElem_setIfInBounds]
    split
    · rename_i e; subst e; simp [Array.getD, ht]
    · rfl

theorem Inv.takeSlot {cx : Cx} {D : DSt} {tm : Array Value} {w : World} (I : Inv cx D [] tm w) {t : Nat} {s : DSl} {y : Value} (hs : D[t]? = some s) (hk : (∃ b ts, s = .box b ts) ∨ (∃ u, s = .one u) ∨ ∃ ts, s = .agg ts)
    (hl : ∀ u ∈ rootsO s, u.noLent = true) (hv : ∀ D, VS D s y) : ∃ P, Inv cx (giveUp t D) P tm w ∧ Out cx (giveUp t D) (ownBl s) ∧ AOk w (ownBl s) s y ∧ ∀ b, (ownBl s).count b ≤ 1 := by
  have hmem := List.mem_of_getElem? hs
  have hm := I.mem s hmem
  have hkd := I.kind s hmem
  have hroots : rootsOf s = rootsO s := by rcases hk with ⟨b, ts, rfl⟩ | ⟨u, rfl⟩ | ⟨ts, rfl⟩ <;> rfl
  have heach : ∀ u ∈ rootsO s, ∃ y, VT u y := by
    have hvs := I.val t s hs
    rcases hk with ⟨b, ts, rfl⟩ | ⟨u, rfl⟩ | ⟨ts, rfl⟩
    · obtain ⟨c, e, f, h1, h2⟩ := hm.2.2.1
      intro u hu
      obtain ⟨j, hj⟩ := List.getElem?_of_mem hu
      obtain ⟨y, _, hy⟩ := h2 j u hj
      exact ⟨y, hy⟩
    · intro v hv
      simp [rootsO] at hv; subst hv
      exact ⟨_, hvs⟩
    · obtain ⟨cs, _, h2⟩ := hvs
      exact h2.each
  obtain ⟨P, hP⟩ := pend_exists heach
  have hown : ∀ b, ((rootsO s).flatMap ownR).count b ≤ (ownBl s).count b := by
    intro b
    rcases hk with ⟨b', ts, rfl⟩ | ⟨u, rfl⟩ | ⟨ts, rfl⟩
    · simp only [rootsO, ownBl, List.count_cons]; omega
    · simp [rootsO, ownBl]
    · simp [rootsO, ownBl]
  have hin : ∀ p ∈ P, p.1 ∈ rootsO s := fun p hp => by rw [← hP.1]; exact List.mem_map.2 ⟨p, hp, rfl⟩
  have IT := Inv.take I (cs := P) hs (fun p hp => ⟨hin p hp, hroots ▸ hin p hp, hP.2 p hp⟩) (fun p hp h c fl d z r e => by
      have := hl _ (hin p hp)
      rw [e] at this; cases this) (fun b => by rw [hP.cnt]; exact hown b) (by rcases hk with ⟨b', ts, rfl⟩ | ⟨u, rfl⟩ | ⟨ts, rfl⟩ <;> simp) (by rcases hk with ⟨b', ts, rfl⟩ | ⟨u, rfl⟩ | ⟨ts, rfl⟩ <;> simp)
  rw [List.append_nil] at IT
  have hone : ∀ b, (ownBl s).count b ≤ 1 := fun b => by
    have h1 := cntD_giveUp hs b
    have h2 := I.once b
    rw [cntP_nil] at h2
    omega
  have hX : Out cx (giveUp t D) (ownBl s) := fun b hb => by
    have h0 := List.count_pos_iff.2 hb
    have h1 := cntD_giveUp hs b
    have h2 := I.once b
    rw [cntP_nil] at h2
    have h3 := mem_ownBl_cnt hmem hb
    exact ⟨(I.bnd b (by omega)).1, by omega⟩
  refine ⟨P, IT, hX, ⟨hv, hm, fun D' => ?_, fun b hb => ⟨hb, (I.bnd b (by have := mem_ownBl_cnt hmem hb; omega)).2⟩⟩, hone⟩
  have hT : ∀ u ∈ rootsO s, KindT cx D u → KindT ⟨w, ownBl s⟩ D' u := by
    intro u hu hk
    have hn := hl u hu
    cases u with
    | v x => trivial
    | any => trivial
    | s k d z r =>
      cases k with
      | own => trivial
      | lent h c fl => cases hn
      | far => exact fun x hx => IT.farX hX (hk x hx)
  rcases hk with ⟨b', ts, rfl⟩ | ⟨u, rfl⟩ | ⟨ts, rfl⟩
  · exact fun u hu => hT u hu (hkd u hu)
  · exact fun u hu => hT u hu (hkd u hu)
  · exact fun u hu => hT u hu (hkd u hu)

theorem noLent_all {ts : List DT} (h : ts.all T.noLent = true) : ∀ u ∈ ts, u.noLent = true := fun u hu => List.all_eq_true.1 h u hu
theorem Dec.addr_sp {d : Dec} (h : d.sp = none) : d.addr = if d.nil = true then none else some ⟨d.b, d.o, none⟩ := Dec.addr_none h
theorem Inv.alNode {cx : Cx} {D : DSt} {P : List (DT × Value)} {tm : Array Value} {w : World} (I : Inv cx D P tm w) {t h c : Nat} {st : List (Nat × Nat)} {d : Dec} {z : Nat} {rows : List (List DT)} (hD : D[t]? = some (.al h c st 0 rows.length)) (hn : nodeAt D h c st = some (.s .own d z rows)) :
    ∃ u, cellAt D h c = some u ∧ u.isOwn = true ∧ getN u st = some (.s .own d z rows) ∧ Holds w (.s .own d z rows) ∧ OwnT w (.s .own d z rows) ∧ VT (.s .own d z rows : DT) (tm.getD t undef) := by
  obtain ⟨d', z', n, ad, hnode, hle, hy, ha, ha0⟩ := I.val t _ hD
  obtain ⟨t0, k1, rows1, g1, g2, g3, g4, g5, g6⟩ := I.node hnode
  simp only [nodeAt, g1, Option.bind_some] at hn
  rw [g3] at hn; cases hn
  refine ⟨t0, g1, g2, g3, g5, g6, ?_⟩
  show tm.getD t undef = _
  rw [hy, Nat.sub_zero, ha0 rfl, Dec.addr_sp g6.sp]

theorem Inv.nodeTake {cx : Cx} {D : DSt} {tm : Array Value} {w : World} (I : Inv cx D [] tm w) {h c : Nat} {d : Dec} {z : Nat} {rows : List (List DT)} (g1 : cellAt D h c = some (.s .own d z rows)) {D1 : DSt}
    (e : updAt (fun _ => some .any) (St.dead (atHC h c) (qHC h c) D) h c [] = some D1) :
    ∃ P, Inv cx D1 P tm w ∧ Out cx D1 (bl (.s .own d z rows)) ∧ (∀ b, (bl (.s .own d z rows)).count b ≤ 1) ∧ (∀ b ∈ bl (.s .own d z rows), b < w.heap.size) ∧ Holds w (.s .own d z rows) ∧ OwnT w (.s .own d z rows) := by
  have I1 := I.dead (atHC h c) (qHC h c)
  have g1' := cellAt_dead_own (p := atHC h c) (q := qHC h c) g1 rfl
  unfold updAt at e
  rw [g1', Option.bind_some] at e
  simp only [updN, Option.bind_some] at e
  obtain ⟨s0, hs0, hs0m, hr0, hr0', hb0⟩ := cellAt_mem g1
  have hm0 := I.mem s0 hs0m
  have g5 := hm0.1 _ hr0
  have g6 := hm0.2.1 _ hr0' rfl
  have hone := I.bl_once g1 rfl
  have hsub : ∀ b ∈ bl (.s .own d z rows), 0 < cntD D b := fun b hb => mem_ownBl_cnt hs0m (hb0 rfl b hb)
  have hlt : ∀ b ∈ bl (.s .own d z rows), b < w.heap.size := fun b hb => (I.bnd b (by have := hsub b hb; omega)).2
  have hown : ownR (.s .own d z rows : DT) = bl (.s .own d z rows) := by simp [ownR, T.isOwn]
  have IU := I1.upd (P' := [(.s .own d z rows, .slice d.addr rows.length d.cap)]) (w' := w) e
    { at_ := g1', own := rfl, holds := .any, ownT := fun h => (by cases h), kind := .inr rfl, val := fun _ h => h.one,
      cnt := fun b => by
        rw [cntP_cons, cntP_nil, hown]
        have h0 : (ownR (.any : DT)).count b = 0 := rfl
        split
        · omega
        · have := hone b; omega,
      new := fun b hb hpos => by
        exfalso
        rw [cntP_cons, cntP_nil, hown] at hpos
        have h0 : (ownR (.any : DT)).count b = 0 := rfl
        have := hlt b (List.count_pos_iff.1 (by omega))
        omega,
      hides := fun s hs => (dead_quiet s hs).1,
      speak := fun s hs st hsp => absurd hsp ((dead_quiet s hs).2 st),
      size := Nat.le_refl _, same := fun _ _ _ => rfl, os := rfl, tape := rfl, output := rfl,
      pend := fun p hp => by
        rw [List.mem_singleton] at hp; subst hp
        exact ⟨rfl, g5, fun _ => g6, fun h => by cases h⟩ }
  refine ⟨_, IU, fun b hb => ?_, hone, hlt, g5, g6⟩
  have q1 := IU.once b
  rw [cntP_cons, cntP_nil, hown] at q1
  have q2 := List.count_pos_iff.2 hb
  exact ⟨(IU.bnd b (by rw [cntP_cons, cntP_nil, hown]; omega)).1, by omega⟩
theorem Inv.root {cx : Cx} {D : DSt} {u : DT} {h c : Nat} {y : Value} (hr : u.rootOf = some (h, c)) (hk : KindT cx D u) (hv : VT u y) : ∃ d z rows, cellAt D h c = some (.s .own d z rows) ∧ y = .slice d.addr rows.length d.cap := by
  cases u with
  | v x => cases hr
  | any => cases hr
  | s k d z r =>
    cases k with
    | lent h' c' fl =>
      cases fl with
      | false => cases hr
      | true =>
        cases hr
        obtain ⟨t, g1, g2, g3, g4⟩ := hk
        obtain ⟨z', rows', rfl, hl⟩ := g4 rfl
        exact ⟨d, z', rows', g1, by rw [hl]; exact hv⟩
    | _ => cases hr
theorem rootIn_some : ∀ {j : Nat} {us : List DT} {h c i : Nat}, rootIn j us = some (h, c, i) → ∃ u, j ≤ i ∧ us[i - j]? = some u ∧ u.rootOf = some (h, c)
  | j, [], h, c, i, e => by cases e
  | j, u :: us, h, c, i, e => by
    unfold rootIn at e
    cases hu : u.rootOf with
    | some p =>
      rw [hu] at e
      cases e
      exact ⟨u, Nat.le_refl _, by simp, hu⟩
    | none =>
      rw [hu] at e
      obtain ⟨v, h1, h2, h3⟩ := rootIn_some e
      refine ⟨v, by omega, ?_, h3⟩
      rw [show i - j = (i - (j + 1)) + 1 by omega]
      simpa using h2
theorem rootsB_get {h : Nat} : ∀ {j : Nat} {ts us : List DT}, rootsB h j ts us = true → ts.length = us.length ∧ ∀ (i : Nat) (t u : DT), ts[i]? = some t → us[i]? = some u →
    (t.isOwn = true → u.rootOf = some (h, j + i)) ∧ (t.isOwn = false → u.noLent = true ∧ u.isOwn = false)
  | _, [], [], _ => ⟨rfl, fun i t u h => by simp at h⟩
  | _, [], u :: us, e => by cases e
  | _, t :: ts, [], e => by cases e
  | j, t :: ts, u :: us, e => by
    unfold rootsB at e
    rw [Bool.and_eq_true] at e
    obtain ⟨e1, e2⟩ := e
    obtain ⟨h1, h2⟩ := rootsB_get e2
    refine ⟨by simp [h1], fun i t' u' hi hu => ?_⟩
    cases i with
    | zero =>
      simp at hi hu; subst hi; subst hu
      split at e1
      · rename_i ho
        exact ⟨fun _ => by simpa using e1, fun q => by rw [ho] at q; cases q⟩
      · rename_i ho
        refine ⟨fun q => absurd q ho, fun _ => ?_⟩
        rw [Bool.and_eq_true] at e1
        exact ⟨e1.1, by simpa using e1.2⟩
    | succ i =>
      have := h2 i t' u' (by simpa using hi) (by simpa using hu)
      rw [show j + (i + 1) = j + 1 + i by omega]
      exact this
theorem mixL_get : ∀ {ts us : List DT} {i : Nat} {x : DT}, (mixL ts us)[i]? = some x → ∃ t u, ts[i]? = some t ∧ us[i]? = some u ∧ x = if t.isOwn = true then t else u
  | [], us, i, x, e => by cases us <;> simp [mixL] at e
  | t :: ts, [], i, x, e => by simp [mixL] at e
  | t :: ts, u :: us, 0, x, e => by simp only [mixL, List.getElem?_cons_zero, Option.some.injEq] at e; exact ⟨t, u, rfl, rfl, e.symm⟩
  | t :: ts, u :: us, i + 1, x, e => by
    simp only [mixL, List.getElem?_cons_succ] at e
    obtain ⟨t', u', h1, h2, h3⟩ := mixL_get e
    exact ⟨t', u', by simpa using h1, by simpa using h2, h3⟩
theorem mixL_len : ∀ {ts us : List DT}, ts.length = us.length → (mixL ts us).length = ts.length
  | [], [], _ => rfl
  | [], u :: us, h => by simp at h
  | t :: ts, [], h => by simp at h
  | t :: ts, u :: us, h => by simp only [mixL, List.length_cons]; rw [mixL_len (by simpa using h)]
theorem mixL_own : ∀ {ts us : List DT}, (∀ (i : Nat) (t u : DT), ts[i]? = some t → us[i]? = some u → t.isOwn = false → u.isOwn = false) → ∀ b, ((mixL ts us).flatMap ownR).count b ≤ (ts.flatMap ownR).count b
  | [], us, _, b => by cases us <;> simp [mixL]
  | t :: ts, [], _, b => by simp [mixL]
  | t :: ts, u :: us, h, b => by
    have ih := mixL_own (ts := ts) (us := us) (fun i t u h1 h2 => h (i + 1) t u (by simpa using h1) (by simpa using h2)) b
    simp only [mixL, List.flatMap_cons, List.count_append]
    cases ho : t.isOwn with
    | true => rw [if_pos rfl]; omega
    | false =>
      rw [if_neg Bool.false_ne_true, ownR_not (h 0 t u rfl rfl ho), ownR_not ho]
      simpa using ih
theorem mixR_get : ∀ {ts us : List DT} {i : Nat} {x : DT}, (mixR ts us)[i]? = some x → ∃ t u, ts[i]? = some t ∧ us[i]? = some u ∧ x = if t.isOwn = true then u else t
  | [], us, i, x, e => by cases us <;> simp [mixR] at e
  | t :: ts, [], i, x, e => by simp [mixR] at e
  | t :: ts, u :: us, 0, x, e => by simp only [mixR, List.getElem?_cons_zero, Option.some.injEq] at e; exact ⟨t, u, rfl, rfl, e.symm⟩
  | t :: ts, u :: us, i + 1, x, e => by
    simp only [mixR, List.getElem?_cons_succ] at e
    obtain ⟨t', u', h1, h2, h3⟩ := mixR_get e
    exact ⟨t', u', by simpa using h1, by simpa using h2, h3⟩
theorem mixR_own : ∀ {ts us : List DT} (b : Nat), ((mixR ts us).flatMap ownR).count b ≤ (us.flatMap ownR).count b
  | [], us, b => by cases us <;> simp [mixR]
  | t :: ts, [], b => by simp [mixR]
  | t :: ts, u :: us, b => by
    have ih := mixR_own (ts := ts) (us := us) b
    simp only [mixR, List.flatMap_cons, List.count_append]
    cases ho : t.isOwn with
    | true => rw [if_pos rfl]; omega
    | false => rw [if_neg Bool.false_ne_true, ownR_not ho]; simp; omega
theorem fine_cases {u : DT} (h : u.noLent = true) : u.isOwn = true ∨ bl u = [] ∨ ∃ d z r, u = .s .far d z r := by
  cases u with
  | v x => exact .inr (.inl (by simp [bl]))
  | any => exact .inr (.inl (by simp [bl]))
  | s k d z r => cases k <;> first | exact .inl rfl | exact .inr (.inr ⟨_, _, _, rfl⟩) | cases h
theorem KindT_out {cx : Cx} {D D' : DSt} {w : World} {X : List Nat} {u : DT} (hn : u.noLent = true) (hk : KindT cx D u) (hf : ∀ b, cx.far b → (Cx.mk w X).far b) : KindT ⟨w, X⟩ D' u := by
  cases u with
  | v x => trivial
  | any => trivial
  | s k d z r =>
    cases k with
    | own => trivial
    | lent h c fl => cases hn
    | far => exact fun x hx => hf x (hk x hx)
theorem Inv.aggNode {cx : Cx} {D : DSt} {a : Act} {w : World} (I : Inv cx D [] a.tmps w) {t : Nat} {ts : List DT} (hD : D[t]? = some (.agg ts)) {h c j : Nat} {u : DT} (hj : ts[j]? = some u) (hr : u.rootOf = some (h, c)) {s : DSl} {D1 : DSt}
    (e : Am.aggNode D ts h c j = some (s, D1)) : ∃ d z rows, cellAt D h c = some (.s .own d z rows) ∧ s = .agg (ts.set j (.s .own d z rows)) ∧ ownBl s = bl (.s .own d z rows) ∧
      ∃ P, Inv cx D1 P a.tmps w ∧ Out cx D1 (ownBl s) ∧ AOk w (ownBl s) s (a.eval (.tmp t)) ∧ (∀ b, (ownBl s).count b ≤ 1) ∧ (hkOf s).isSome = true ∧ OwnT w (.s .own d z rows) := by
  obtain ⟨cs, hy, hvc⟩ := I.val t _ hD
  have hmem := List.mem_of_getElem? hD
  have hm := I.mem _ hmem
  have hkd := I.kind _ hmem
  have hlt : j < ts.length := lt_of_get hj
  have hltc : j < cs.toList.length := by rw [← hvc.1]; exact hlt
  have hvj := hvc.2 j u _ hj (List.getElem?_eq_getElem hltc)
  obtain ⟨d, z, rows, g1, g2⟩ := Inv.root hr (hkd u (List.mem_of_getElem? hj)) hvj
  unfold Am.aggNode at e
  rw [g1] at e
  simp only at e
  split at e
  case isFalse => cases e
  rename_i hcond
  rw [Option.map_eq_some_iff] at e
  obtain ⟨D', e1, e2⟩ := e
  cases e2
  obtain ⟨P, n1, n2, n3, n4, n5, n6⟩ := I.nodeTake g1 e1
  have hno : ∀ v ∈ ts.set j .any, v.isOwn = false := by
    have := hcond.2
    rw [List.any_eq_false] at this
    intro v hv
    have := this v hv
    simpa using this
  have hcnt : ∀ b, ((ts.set j (.s .own d z rows)).flatMap ownR).count b = (bl (.s .own d z rows)).count b := by
    intro b
    have q := count_set ownR (.s .own d z rows : DT) b ts j u hj
    have q2 := count_set ownR (.any : DT) b ts j u hj
    have q3 : ((ts.set j .any).flatMap ownR) = [] := by
      rw [List.flatMap_eq_nil_iff]; exact fun v hv => ownR_not (hno v hv)
    have q4 : (ownR (.any : DT)).count b = 0 := rfl
    have q5 : ownR (.s .own d z rows : DT) = bl (.s .own d z rows) := by simp [ownR, T.isOwn]
    rw [q3] at q2
    rw [q5] at q
    simp only [List.count_nil] at q2
    omega
  have hset : ∀ (i : Nat) (v : DT), (ts.set j (.s .own d z rows))[i]? = some v → (i = j ∧ v = .s .own d z rows) ∨ (i ≠ j ∧ ts[i]? = some v ∧ v ∈ ts.set j .any) := by
    intro i v hi
    by_cases q : i = j
    · subst q
      rw [List.getElem?_set_self hlt] at hi
      cases hi
      exact .inl ⟨rfl, rfl⟩
    · rw [List.getElem?_set_ne (fun q' => q q'.symm)] at hi
      exact .inr ⟨q, hi, List.mem_of_getElem? (i := i) (by rw [List.getElem?_set_ne (fun q' => q q'.symm)]; exact hi)⟩
  have hbl : ∀ b, b ∈ ownBl (.agg (ts.set j (.s .own d z rows))) ↔ b ∈ bl (.s .own d z rows) := fun b => by
    rw [← List.count_pos_iff, ← List.count_pos_iff]
    show 0 < ((ts.set j (.s .own d z rows)).flatMap ownR).count b ↔ _
    rw [hcnt]
  have hbl2 : ownBl (.agg (ts.set j (.s .own d z rows))) = bl (.s .own d z rows) := by
    show (ts.set j (.s .own d z rows)).flatMap ownR = _
    have key : ∀ (l : List DT) (i : Nat), i < l.length → (∀ v ∈ l.set i .any, v.isOwn = false) → (l.set i (.s .own d z rows)).flatMap ownR = bl (.s .own d z rows) := by
      intro l
      induction l with
      | nil => intro i hi; simp at hi
      | cons x l ih =>
        intro i hi hv
        cases i with
        | zero =>
          simp only [List.set_cons_zero, List.flatMap_cons]
          have : l.flatMap ownR = [] := by
            rw [List.flatMap_eq_nil_iff]; exact fun v hv' => ownR_not (hv v (by simp [hv']))
          rw [this]; simp [ownR, T.isOwn]
        | succ i =>
          simp only [List.set_cons_succ, List.flatMap_cons]
          rw [ownR_not (hv x (by simp)), ih i (by simpa using hi) (fun v hv' => hv v (by simp [hv']))]
          rfl
    exact key ts j hlt hno
  refine ⟨d, z, rows, g1, rfl, hbl2, P, n1, ?_, ?_, ?_, ?_, n6⟩
  · rw [hbl2]; exact n2
  · rw [hbl2]
    refine ⟨fun _ => ⟨cs, hy, ⟨by rw [List.length_set]; exact hvc.1, fun i v y' hi hy' => ?_⟩⟩, ⟨fun v hv => ?_, fun v hv ho => ?_, trivial⟩, fun D' v hv => ?_, fun b hb => ?_⟩
    · rcases hset i v hi with ⟨rfl, rfl⟩ | ⟨_, q, _⟩
      · rw [List.getElem?_eq_getElem hltc] at hy'
        cases hy'
        exact g2
      · exact hvc.2 i v y' q hy'
    · obtain ⟨i, hi⟩ := List.getElem?_of_mem hv
      rcases hset i v hi with ⟨rfl, rfl⟩ | ⟨_, q, _⟩
      · exact n5
      · exact hm.1 v (List.mem_of_getElem? q)
    · obtain ⟨i, hi⟩ := List.getElem?_of_mem hv
      rcases hset i v hi with ⟨rfl, rfl⟩ | ⟨_, q, q2⟩
      · exact n6
      · rw [hno v q2] at ho; cases ho
    · obtain ⟨i, hi⟩ := List.getElem?_of_mem hv
      rcases hset i v hi with ⟨rfl, rfl⟩ | ⟨_, q, q2⟩
      · trivial
      · exact KindT_out (noLent_all hcond.1 v q2) (hkd v (List.mem_of_getElem? q)) fun b hb => n1.farX n2 hb
    · rw [hbl2] at hb
      exact ⟨hb, n4 b hb⟩
  · intro b; rw [hbl2]; exact n3 b
  · simp only [hkOf]
    rw [if_pos]
    · rfl
    · rw [List.any_eq_true]
      exact ⟨_, List.mem_set hlt _, rfl⟩

theorem Inv.boxAgg {cx : Cx} {D : DSt} {a : Act} {w : World} (I : Inv cx D [] a.tmps w) {t h : Nat} {ts bs : List DT} {b : Nat × Nat} (hD : D[t]? = some (.agg ts)) (hb : D[h]? = some (.box b bs)) (hr : rootsB h 0 bs ts = true) (hl : bs.all T.noLent = true) :
    ∃ P, Inv cx (giveUp h D) P a.tmps w ∧ Out cx (giveUp h D) (ownBl (.agg (mixL bs ts))) ∧ AOk w (ownBl (.agg (mixL bs ts))) (.agg (mixL bs ts)) (a.eval (.tmp t)) ∧ (∀ x, (ownBl (.agg (mixL bs ts))).count x ≤ 1) ∧
      (Out cx (giveUp h D) (ownBl (.box b bs)) ∧ b.1 ∉ ownBl (.agg (mixL bs ts)) ∧ b.1 < w.heap.size) ∧ ∀ cs : Array Value, a.eval (.tmp t) = .agg cs → ∀ (i : Nat) (x : DT) (y : Value), bs[i]? = some x → x.isOwn = true → cs.toList[i]? = some y → VT x y := by
  obtain ⟨cs, hy, hvc⟩ := I.val t _ hD
  have hmem := List.mem_of_getElem? hD
  have hm := I.mem _ hmem
  have hkd := I.kind _ hmem
  obtain ⟨P, h1, h2, h3, h4⟩ := I.takeSlot hb (.inl ⟨b, bs, rfl⟩) (noLent_all hl) (y := .pointer (some ⟨b.1, b.2, none⟩)) (fun _ => rfl)
  obtain ⟨hlen, hroots⟩ := rootsB_get hr
  have hcnt := mixL_own (ts := bs) (us := ts) (fun i t u q1 q2 q3 => ((hroots i t u q1 q2).2 q3).2)
  have hsub : ∀ x ∈ ownBl (.agg (mixL bs ts)), x ∈ ownBl (.box b bs) := fun x hx => by
    have q := hcnt x
    have q2 := List.count_pos_iff.2 (show x ∈ (mixL bs ts).flatMap ownR from hx)
    exact List.mem_cons_of_mem _ (List.count_pos_iff.1 (by omega))
  have hX : Out cx (giveUp h D) (ownBl (.agg (mixL bs ts))) := fun x hx => h2 x (hsub x hx)
  have hval : ∀ (i : Nat) (x : DT) (y : Value), bs[i]? = some x → x.isOwn = true → cs.toList[i]? = some y → VT x y := by
    intro i x y hi ho hcy
    have hlt : i < ts.length := by rw [← hlen]; exact lt_of_get hi
    have hu := List.getElem?_eq_getElem hlt
    have hro := (hroots i x _ hi hu).1 ho
    obtain ⟨d, z, rows, g1, g2⟩ := Inv.root hro (hkd _ (List.mem_of_getElem? hu)) (hvc.2 i _ y hu hcy)
    have : cellAt D h (0 + i) = some x := by rw [Nat.zero_add]; unfold cellAt; rw [hb]; exact hi
    rw [this] at g1
    cases g1
    exact g2
  have hmix : ∀ x ∈ mixL bs ts, (x ∈ bs ∧ x.isOwn = true) ∨ (x ∈ ts ∧ x.noLent = true ∧ x.isOwn = false) := by
    intro x hx
    obtain ⟨i, hi⟩ := List.getElem?_of_mem hx
    obtain ⟨t', u', q1, q2, q3⟩ := mixL_get hi
    cases ho : t'.isOwn with
    | true => rw [ho, if_pos rfl] at q3; subst q3; exact .inl ⟨List.mem_of_getElem? q1, ho⟩
    | false =>
      rw [ho, if_neg Bool.false_ne_true] at q3; subst q3
      have := (hroots i t' x q1 q2).2 ho
      exact .inr ⟨List.mem_of_getElem? q2, this.1, this.2⟩
  have hone : ∀ x, (ownBl (.agg (mixL bs ts))).count x ≤ 1 := fun x => by
    have q := hcnt x
    have q2 := h4 x
    have q3 : (ownBl (.box b bs)).count x = (if b.1 = x then 1 else 0) + (bs.flatMap ownR).count x := by
      simp only [ownBl, List.count_cons, beq_iff_eq]
      omega
    show ((mixL bs ts).flatMap ownR).count x ≤ 1
    omega
  have hbn : b.1 ∉ ownBl (.agg (mixL bs ts)) := fun hx => by
    have q := hcnt b.1
    have q1 := List.count_pos_iff.2 (show b.1 ∈ (mixL bs ts).flatMap ownR from hx)
    have q2 := h4 b.1
    have q3 : (ownBl (.box b bs)).count b.1 = 1 + (bs.flatMap ownR).count b.1 := by
      simp only [ownBl, List.count_cons_self]; omega
    omega
  refine ⟨P, h1, hX, ⟨fun _ => ⟨cs, hy, ⟨by rw [mixL_len hlen, hlen]; exact hvc.1, fun i x y hi hcy => ?_⟩⟩, ⟨fun x hx => ?_, fun x hx ho => ?_, trivial⟩, fun D' x hx => ?_, fun x hx => ⟨hx, (h3.own x (hsub x hx)).2⟩⟩, hone, ⟨h2, hbn, (h3.own b.1 (by simp [ownBl])).2⟩, fun cs' hcs' => ?_⟩
  · obtain ⟨t', u', q1, q2, q3⟩ := mixL_get hi
    cases ho : t'.isOwn with
    | true => rw [ho, if_pos rfl] at q3; subst q3; exact hval i x y q1 ho hcy
    | false => rw [ho, if_neg Bool.false_ne_true] at q3; subst q3; exact hvc.2 i x y q2 hcy
  · rcases hmix x hx with ⟨q, _⟩ | ⟨q, _⟩
    · exact h3.mem.1 x q
    · exact hm.1 x q
  · rcases hmix x hx with ⟨q, _⟩ | ⟨q, _, q2⟩
    · exact h3.mem.2.1 x q ho
    · rw [q2] at ho; cases ho
  · rcases hmix x hx with ⟨q, q2⟩ | ⟨q, q2, _⟩
    · cases x with
      | v y => trivial
      | any => trivial
      | s k d z r => cases k <;> first | trivial | cases q2
    · exact KindT_out q2 (hkd x q) fun b hb => h1.farX hX hb
  · have : cs' = cs := by
      have hh : a.eval (.tmp t) = .agg cs := hy
      rw [hh] at hcs'
      cases hcs'; rfl
    subst this
    exact hval
theorem Inv.homeTake {cx : Cx} {D : DSt} {a : Act} {w : World} (I : Inv cx D [] a.tmps w) {x : Operand} {s : DSl} {D1 : DSt} (e : Am.homeTake D x = some (s, D1)) :
    ∃ P, Inv cx D1 P a.tmps w ∧ Out cx D1 (ownBl s) ∧ AOk w (ownBl s) s (a.eval x) ∧ (∀ b, (ownBl s).count b ≤ 1) ∧ (hkOf s).isSome = true := by
  cases x with
  | tmp t =>
    simp only [Am.homeTake] at e
    split at e
    · rename_i b ts hD
      split at e
      case isFalse => cases e
      rename_i hl
      cases e
      obtain ⟨P, h1, h2, h3, h4⟩ := I.takeSlot hD (.inl ⟨b, ts, rfl⟩) (noLent_all hl) (fun _ => I.val t _ hD)
      exact ⟨P, h1, h2, h3, h4, rfl⟩
    · rename_i h off hD
      split at e
      case isFalse => cases e
      rename_i hoff
      subst hoff
      split at e
      case h_2 => cases e
      rename_i b ts hb
      split at e
      case isFalse => cases e
      rename_i hl
      cases e
      obtain ⟨b', ts', hb', hy⟩ := I.val t _ hD
      rw [hb] at hb'; cases hb'
      obtain ⟨P, h1, h2, h3, h4⟩ := I.takeSlot hb (.inl ⟨b, ts, rfl⟩) (noLent_all hl) (y := a.eval (.tmp t)) (fun _ => hy)
      exact ⟨P, h1, h2, h3, h4, rfl⟩
    · rename_i h c st lo len hD
      split at e
      case h_2 => cases e
      rename_i d z rows hn
      split at e
      case isFalse => cases e
      rename_i hc
      obtain ⟨rfl, rfl⟩ := hc
      rw [Option.map_eq_some_iff] at e
      obtain ⟨D2, hD2, e⟩ := e
      cases e
      have hct : Am.cellsTake mkD D (.tmp t) = some (false, [.s .own d z rows], D1) := by
        simp only [Am.cellsTake, hD, hn]
        rw [if_pos (Or.inl trivial), hD2]
        simp [mkD]
      obtain ⟨ys, P, h1, h2, h3⟩ := I.cellsTake hct
      have hys : ys = [a.eval (.tmp t)] := by simpa [ValIs] using h3
      subst hys
      have hcnt : ∀ b, (ownR (.s .own d z rows : DT)).count b ≤ cntP P b := fun b => by simpa using h2.cnt b
      have hX : Out cx D1 (ownBl (.one (.s .own d z rows))) := fun b hb => by
        have q1 := List.count_pos_iff.2 (show b ∈ ownR (.s .own d z rows : DT) from hb)
        have q2 := hcnt b
        have q3 := h1.once b
        exact ⟨(h1.bnd b (by omega)).1, by omega⟩
      refine ⟨P, h1, hX, ⟨fun _ => h2.v.2 0 _ _ rfl rfl, ⟨fun u hu => h2.holds u hu, fun u hu ho => h2.own u hu ho, trivial⟩, fun D' u hu => ?_, fun b hb => ⟨hb, ?_⟩⟩, fun b => ?_, rfl⟩
      · rw [List.mem_singleton.1 hu]; trivial
      · have q1 := List.count_pos_iff.2 (show b ∈ ownR (.s .own d z rows : DT) from hb)
        have q2 := hcnt b
        exact (h1.bnd b (by omega)).2
      · have q2 := hcnt b
        have q3 := h1.once b
        show (ownR (.s .own d z rows : DT)).count b ≤ 1
        omega
    · rename_i u hD
      split at e
      case isFalse =>
        split at e
        case h_2 => cases e
        rename_i h c hr
        split at e
        case h_2 => cases e
        rename_i d z rows hc
        rw [Option.map_eq_some_iff] at e
        obtain ⟨D', e1, e2⟩ := e
        cases e2
        obtain ⟨P, n1, n2, n3, n4, n5, n6⟩ := I.nodeTake hc e1
        obtain ⟨d', z', rows', g1, g2⟩ := Inv.root hr (I.kind _ (List.mem_of_getElem? hD) u (by simp [rootsOf])) (I.val t _ hD)
        rw [hc] at g1; cases g1
        have hbl : ownBl (.one (.s .own d z rows) : DSl) = bl (.s .own d z rows) := by simp [ownBl, ownR, T.isOwn]
        refine ⟨P, n1, by rw [hbl]; exact n2, ⟨fun _ => g2, ⟨fun v hv => ?_, fun v hv _ => ?_, trivial⟩, fun D' v hv => ?_, fun b hb => ?_⟩, fun b => by rw [hbl]; exact n3 b, rfl⟩
        · rw [List.mem_singleton.1 hv]; exact n5
        · rw [List.mem_singleton.1 hv]; exact n6
        · rw [List.mem_singleton.1 hv]; trivial
        · exact ⟨hb, n4 b (hbl ▸ hb)⟩
      rename_i ho
      cases e
      obtain ⟨P, h1, h2, h3, h4⟩ := I.takeSlot hD (.inr (.inl ⟨u, rfl⟩)) (fun v hv => by
        simp [rootsO] at hv; subst hv
        cases v with
        | v x => rfl
        | any => rfl
        | s k d z r => cases k <;> first | rfl | cases ho) (y := a.eval (.tmp t)) (fun _ => I.val t _ hD)
      exact ⟨P, h1, h2, h3, h4, by simp [hkOf, ho]⟩
    · rename_i ts hD
      split at e
      case isFalse =>
        split at e
        case h_2 => cases e
        rename_i h c j hri
        obtain ⟨u, _, hj, hr⟩ := rootIn_some hri
        have hagg : Am.aggNode D ts h c j = some (s, D1) → ∃ P, Inv cx D1 P a.tmps w ∧ Out cx D1 (ownBl s) ∧ AOk w (ownBl s) s (a.eval (.tmp t)) ∧ (∀ b, (ownBl s).count b ≤ 1) ∧ (hkOf s).isSome = true := fun e => by
          obtain ⟨d, z, rows, _, _, _, P, q1, q2, q3, q4, q5, _⟩ := I.aggNode hD (by simpa using hj) hr e
          exact ⟨P, q1, q2, q3, q4, q5⟩
        split at e
        case h_2 => exact hagg e
        rename_i b bs hb
        split at e
        case isFalse => exact hagg e
        rename_i hc
        cases e
        obtain ⟨P, q1, q2, q3, q4, q5, _⟩ := I.boxAgg hD hb hc.1 hc.2.1
        exact ⟨P, q1, q2, q3, q4, by simp only [hkOf]; rw [if_pos hc.2.2]; rfl⟩
      rename_i hl
      split at e
      case isFalse => cases e
      rename_i hl2
      cases e
      obtain ⟨P, h1, h2, h3, h4⟩ := I.takeSlot hD (.inr (.inr ⟨ts, rfl⟩)) (noLent_all hl) (y := a.eval (.tmp t)) (fun _ => I.val t _ hD)
      exact ⟨P, h1, h2, h3, h4, by simp only [hkOf]; rw [if_pos hl2]; rfl⟩
    · cases e
  | _ => cases e

theorem Inv.back {cx : Cx} {D1 : DSt} {P : List (DT × Value)} {tm : Array Value} {w w' : World} (I : Inv cx D1 P tm w) {X bx : List Nat} (hX : Out cx D1 X) (g : GrewH X w w') {o : Bool × List DT} {rd : DRes} {v : Value} (R : RetOk w X w' bx [o] rd v)
    {Po Pr : List (DT × Value)} (hPo : PendOf Po o.2) (hPr : PendOf Pr (rd.flatMap (·.2))) : Inv cx D1 (Po ++ Pr) tm w' ∧ ∀ b, cntP (Po ++ Pr) b = (resBl ([o] ++ rd)).count b := by
  have hcnt : ∀ b, cntP (Po ++ Pr) b = (resBl ([o] ++ rd)).count b := by
    intro b
    rw [cntP_append, hPo.cnt, hPr.cnt, resBl_append, List.count_append, resBl_cells rd]
    simp [resBl]
  refine ⟨I.world hX g (fun p hp => ?_) (fun b hb => ?_), hcnt⟩
  · rcases List.mem_append.1 hp with hp | hp
    · exact R.pend (fun t ht => ⟨o, by simp, ht⟩) hPo cx p hp
    · exact R.pend (fun t ht => by
        obtain ⟨r, hr, ht⟩ := List.mem_flatMap.1 ht
        exact ⟨r, by simp [hr], ht⟩) hPr cx p hp
  · rw [hcnt] at hb ⊢
    have h1 := R.once b
    obtain ⟨n1, n2⟩ := R.new b (List.count_pos_iff.1 hb)
    rcases n1 with n1 | n1
    · refine ⟨by omega, ?_, .inl (Nat.le_trans I.frame.size n1), n2⟩
      rcases Nat.eq_zero_or_pos (cntD D1 b) with q | q
      · exact q
      · have := (I.bnd b (by omega)).2; omega
    · exact ⟨by omega, (hX b n1).2, (hX b n1).1, n2⟩
theorem Inv.putBack {cx : Cx} {D1 : DSt} {P : List (DT × Value)} {tm : Array Value} {w w' : World} (I1 : Inv cx D1 P tm w) {X bx : List Nat} (hX : Out cx D1 X) (g : GrewH X w w') {o : Bool × List DT} {rd : DRes} {v : Value} (R : RetOk w X w' bx [o] rd v)
    {t : Nat} (ht : t < D1.length) {s' : DSl} (hv : VS D1 s' (tm.getD t undef)) (hr : rootsOf s' = o.2) (hr' : rootsO s' = o.2) (hx : MemX w' s') (hni : (∃ b, s' = .box b o.2 ∧ bx = [b.1] ∧ b.1 ∈ X ∧ b.1 < w.heap.size) ∨ (∃ u, s' = .one u) ∨ ∃ ts, s' = .agg ts)
    (heach : ∀ u ∈ o.2, ∃ y, VT u y) : ∃ Pr, PendOf Pr (rd.flatMap (·.2)) ∧ Inv cx (putSl D1 (some t) s') Pr tm w' := by
  obtain ⟨Po, hPo⟩ := pend_exists heach
  obtain ⟨Pr, hPr⟩ := pend_exists R.each
  obtain ⟨I2, hc⟩ := I1.back hX g R hPo hPr
  have hsz : t < tm.size := by rw [← I1.size]; exact ht
  have hmem : MemS w' s' := ⟨fun u hu => R.holds o (by simp) u (hr ▸ hu), fun u hu ho => R.own o (by simp) u (hr' ▸ hu) ho, hx⟩
  have hkt : ∀ u ∈ rootsOf s', KindT cx D1 u := fun u hu => KindT_fine (R.fine o (by simp) u (hr ▸ hu))
  refine ⟨Pr, hPr, ?_⟩
  rw [← setSame (tm := tm) (t := t) hsz]
  rcases hni with ⟨b, rfl, hbx, hbX, hblt⟩ | ⟨u, rfl⟩ | ⟨ts, rfl⟩
  · refine Inv.putF (P := Po) (Q := Pr) I2 (fun x => if x = b.1 then 1 else 0) (fun x hx => ?_) ht hv hmem hkt (fun x => ?_)
    · split at hx
      · rename_i e
        subst e
        have h1 := R.once b.1
        rw [hbx] at h1
        simp only [List.count_cons_self] at h1
        exact ⟨by simp, by rw [hc, (hX _ hbX).2]; omega, (hX _ hbX).1, Nat.lt_of_lt_of_le hblt g.size⟩
      · cases hx
    · rw [hPo.cnt]
      simp only [ownBl, List.count_cons]
      by_cases e : x = b.1
      · subst e; simp
      · have : (b.1 == x) = false := by simp; exact fun h => e h.symm
        simp [this, e]
  · refine Inv.put (P := Po) (Q := Pr) I2 ht hv hmem hkt (fun x => ?_)
    rw [hPo.cnt, ← hr']
    simp [ownBl, rootsO]
  · refine Inv.put (P := Po) (Q := Pr) I2 ht hv hmem hkt (fun x => ?_)
    rw [hPo.cnt, ← hr']
    exact Nat.le_refl _

theorem Inv.nodeBack {cx : Cx} {D : DSt} {tm : Array Value} {w w' : World} (I : Inv cx D [] tm w) {h c : Nat} {st : List (Nat × Nat)} {u : DT} {d : Dec} {z : Nat} {rows : List (List DT)} (n1 : cellAt D h c = some u) (n2 : u.isOwn = true)
    (n3 : getN u st = some (.s .own d z rows)) (n5 : OwnT w (.s .own d z rows)) (g : GrewH (bl (.s .own d z rows)) w w') {bx : List Nat} {o : Bool × List DT} {rd : DRes} {v : Value} (R : RetOk w (bl (.s .own d z rows)) w' bx [o] rd v)
    {d' : Dec} {rows' : List (List DT)} (hm : (.s .own d' z rows' : DT) ∈ o.2) (hval : Value.slice d'.addr rows'.length d'.cap = .slice d.addr rows.length d.cap) :
    ∃ D2 Pr, updAt (setRows rows') (St.dead (atHC h c) (qDeep h c) D) h c st = some D2 ∧ PendOf Pr (rd.flatMap (·.2)) ∧ Inv cx D2 Pr tm w' := by
  simp only [Value.slice.injEq] at hval
  obtain ⟨v1, v2, v3⟩ := hval
  have hH := R.holds o (by simp) (.s .own d' z rows') hm
  have hO := R.own o (by simp) (.s .own d' z rows') hm rfl
  have hd : d' = d ∨ (d.nil = true ∧ rows' = [] ∧ d.sp = none ∧ d.cap = 0) := by
    rw [Dec.addr_sp hO.sp, Dec.addr_sp n5.sp] at v1
    cases hdn : d.nil with
    | true =>
      right
      rw [hdn] at v1
      have hdn' : d'.nil = true := by
        cases q : d'.nil with
        | true => rfl
        | false => rw [q] at v1; simp at v1
      refine ⟨rfl, hH.nilrows hdn', n5.sp, ?_⟩
      cases n5 with
      | nil _ _ _ _ hc => exact hc
      | s _ _ _ q => rw [q] at hdn; cases hdn
    | false =>
      left
      rw [hdn] at v1
      cases q : d'.nil with
      | true => rw [q] at v1; simp at v1
      | false =>
        rw [q] at v1
        simp only [Bool.false_eq_true, if_false, Option.some.injEq, Addr.mk.injEq] at v1
        have s1 := hO.sp
        have s2 := n5.sp
        cases d; cases d'
        simp_all
  have hN1 : Holds w' (.s .own d z rows') := by
    rcases hd with rfl | ⟨q1, rfl, q3, q4⟩
    · exact hH
    · exact .e .own d z
  have hN2 : OwnT w' (.s .own d z rows') := by
    rcases hd with rfl | ⟨q1, rfl, q3, q4⟩
    · exact hO
    · exact .nil d z q1 q3 q4
  have hbl : ∀ b, (bl (.s .own d z rows')).count b ≤ (bl (.s .own d' z rows')).count b := by
    intro b
    rcases hd with rfl | ⟨q1, rfl, q3, q4⟩
    · exact Nat.le_refl _
    · rw [bl_s, q1]; simp
  obtain ⟨Pr, hPr⟩ := pend_exists R.each
  have hres : ∀ b, (bl (.s .own d' z rows')).count b + cntP Pr b ≤ (resBl ([o] ++ rd)).count b := by
    intro b
    rw [resBl_append, List.count_append, hPr.cnt, resBl_cells rd]
    refine Nat.add_le_add ?_ (Nat.le_refl _)
    obtain ⟨i, hi⟩ := List.getElem?_of_mem hm
    have q := count_set ownR (.any : DT) b o.2 i _ hi
    have q2 : (ownR (.any : DT)).count b = 0 := rfl
    have q3 : ownR (.s .own d' z rows' : DT) = bl (.s .own d' z rows') := by simp [ownR, T.isOwn]
    rw [q3] at q
    have q4 : (resBl [o]).count b = (o.2.flatMap ownR).count b := by simp [resBl]
    omega
  have N : NodeOk w w' (.s .own d z rows) (.s .own d z rows') := ⟨hN1, hN2, fun y hy => by
    show y = _
    rw [show y = _ from hy, v2], fun b hb hnb => g.same b hb hnb⟩
  obtain ⟨D', k1, k2⟩ := I.updNode (P' := Pr) n1 n2 n3 (f := setRows rows') rfl N (fun _ => rfl) (p := atHC h c) (q := qDeep h c) (by simp [atHC]) (.inr (.inl ⟨by simp [qDeep], fun d2 z2 m ⟨k2, r2, q1, q2⟩ => by
      simp only [getN, Option.some.injEq, T.s.injEq] at q1
      obtain ⟨rfl, rfl, rfl, rfl⟩ := q1
      exact ⟨.own, rows', rfl, by omega⟩⟩)) (fun b => by
      have q1 := R.once b
      have q3 := hres b
      have q2 := hbl b
      split
      · rename_i hlt
        rcases Nat.eq_zero_or_pos ((bl (.s .own d' z rows')).count b + cntP Pr b) with q | q
        · omega
        · have := R.new b (List.count_pos_iff.1 (by omega))
          rcases this.1 with q' | q'
          · omega
          · have := List.count_pos_iff.2 q'
            omega
      · omega) (fun b hb hp => by
      have q2 := hbl b
      have q3 := hres b
      exact (R.new b (List.count_pos_iff.1 (by omega))).2) g.size g.os g.tape g.output (R.pend (fun t ht => by
      obtain ⟨r, hr, ht⟩ := List.mem_flatMap.1 ht
      exact ⟨r, by simp [hr], ht⟩) hPr cx)
  exact ⟨D', Pr, k1, hPr, k2⟩
theorem ownBl_one {d : Dec} {z : Nat} {rows : List (List DT)} : ownBl (.one (.s .own d z rows) : DSl) = bl (.s .own d z rows) := by simp [ownBl, ownR, T.isOwn]
theorem Inv.nodePut {cx : Cx} {D D2 : DSt} {tm : Array Value} {w w' : World} (I : Inv cx D [] tm w) {h c : Nat} {d : Dec} {z : Nat} {rows : List (List DT)} (n1 : cellAt D h c = some (.s .own d z rows)) (n5 : OwnT w (.s .own d z rows))
    (g : GrewH (bl (.s .own d z rows)) w w') {bx : List Nat} {o : Bool × List DT} {rd : DRes} {v : Value} (R : RetOk w (bl (.s .own d z rows)) w' bx [o] rd v) {u : DT} (hm : u ∈ o.2) (hv : VT u (.slice d.addr rows.length d.cap))
    (e : Am.nodePut D h c u = some D2) : ∃ Pr, PendOf Pr (rd.flatMap (·.2)) ∧ Inv cx D2 Pr tm w' := by
  unfold Am.nodePut at e
  rw [n1] at e
  split at e
  case h_2 => cases e
  rename_i k0 d0 z0 rows0 d' z' rows' hn0
  cases hn0
  split at e
  case isFalse => cases e
  rename_i hz
  subst hz
  obtain ⟨D3, Pr, k1, k2, k3⟩ := I.nodeBack (st := []) n1 rfl rfl n5 g R hm hv.symm
  rw [k1] at e
  cases e
  exact ⟨Pr, k2, k3⟩
theorem Inv.boxBack {cx : Cx} {D D1 : DSt} {P : List (DT × Value)} {tm : Array Value} {w w' : World} (I : Inv cx D [] tm w) {h : Nat} {b : Nat × Nat} {bs : List DT} (hb : D[h]? = some (.box b bs)) (hl : bs.all T.noLent = true) (I1 : Inv cx (giveUp h D) P tm w) {X bx : List Nat}
    (hX : Out cx (giveUp h D) X) (hXb : Out cx (giveUp h D) (ownBl (.box b bs))) (hbn : b.1 ∉ X) (hblt : b.1 < w.heap.size) (g : GrewH X w w') {o : Bool × List DT} {rd : DRes} {v : Value} (R : RetOk w X w' bx [o] rd v)
    {cs : Array Value} (ho : VCells o.2 cs.toList) (hval : ∀ (i : Nat) (x : DT) (y : Value), bs[i]? = some x → x.isOwn = true → cs.toList[i]? = some y → VT x y) :
    ∃ Pr, PendOf Pr (rd.flatMap (·.2)) ∧ Inv cx (putSl (giveUp h D) (some h) (.box b (mixR bs o.2))) Pr tm w' := by
  obtain ⟨Po, hPo⟩ := pend_exists ho.each
  obtain ⟨Pr, hPr⟩ := pend_exists R.each
  obtain ⟨I2, hc⟩ := I1.back hX g R hPo hPr
  have hmem := List.mem_of_getElem? hb
  have hm := I.mem _ hmem
  have hkd := I.kind _ hmem
  have ht : h < (giveUp h D).length := by rw [giveUp_len]; exact lt_of_get hb
  have hsz : h < tm.size := by rw [← I1.size]; exact ht
  have same : w'.heap[b.1]? = w.heap[b.1]? := g.same b.1 hblt hbn
  have hmix : ∀ x ∈ mixR bs o.2, (x ∈ o.2) ∨ (x ∈ bs ∧ x.isOwn = false) := by
    intro x hx
    obtain ⟨i, hi⟩ := List.getElem?_of_mem hx
    obtain ⟨t', u', q1, q2, q3⟩ := mixR_get hi
    cases hot : t'.isOwn with
    | true => rw [hot, if_pos rfl] at q3; subst q3; exact .inl (List.mem_of_getElem? q2)
    | false => rw [hot, if_neg Bool.false_ne_true] at q3; subst q3; exact .inr ⟨List.mem_of_getElem? q1, hot⟩
  have hfarB : ∀ x ∈ bs, x.isOwn = false → ∀ y ∈ bl x, (Cx.mk w X).far y := by
    intro x hx hxo y hy
    rcases fine_cases (noLent_all hl x hx) with q | q | ⟨d, z, r, rfl⟩
    · rw [hxo] at q; cases q
    · rw [q] at hy; cases hy
    · exact I1.farX hX (hkd _ hx y hy)
  obtain ⟨c, e, f, l1, l2⟩ := hm.2.2.1
  refine ⟨Pr, hPr, ?_⟩
  rw [← setSame (tm := tm) (t := h) hsz]
  refine Inv.putF (P := Po) (Q := Pr) I2 (fun x => if x = b.1 then 1 else 0) (fun x hx => ?_) ht (I.val h _ hb) ⟨fun u hu => ?_, fun u hu hou => ?_, ⟨⟨c, e, f, by rw [same]; exact l1, fun j u hj => ?_⟩, fun c' e' lo hi' hc' y h1 h2 => ?_⟩⟩ (fun u hu => ?_) (fun x => ?_)
  · split at hx
    · rename_i hxe
      subst hxe
      have q0 := hXb b.1 (by simp [ownBl])
      refine ⟨by simp, ?_, q0.1, Nat.lt_of_lt_of_le hblt g.size⟩
      rw [hc, q0.2]
      rcases Nat.eq_zero_or_pos ((resBl ([o] ++ rd)).count b.1) with q | q
      · omega
      · have := (R.new b.1 (List.count_pos_iff.1 q)).1
        rcases this with q' | q'
        · omega
        · exact absurd q' hbn
    · cases hx
  · rcases hmix u hu with q | ⟨q, q2⟩
    · exact R.holds o (by simp) u q
    · exact (hm.1 u q).frame fun y hy _ => g.same y (hfarB u q q2 y hy).1 (hfarB u q q2 y hy).2
  · rcases hmix u hu with q | ⟨q, q2⟩
    · exact R.own o (by simp) u q hou
    · rw [q2] at hou; cases hou
  · obtain ⟨t', u', q1, q2, q3⟩ := mixR_get hj
    obtain ⟨y, y1, y2⟩ := l2 j t' q1
    refine ⟨y, y1, ?_⟩
    cases hot : t'.isOwn with
    | false => rw [hot, if_neg Bool.false_ne_true] at q3; subst q3; exact y2
    | true =>
      rw [hot, if_pos rfl] at q3; subst q3
      have hlt : j < cs.toList.length := by rw [← ho.1]; exact lt_of_get q2
      have hcy := List.getElem?_eq_getElem hlt
      have v1 := hval j t' _ q1 hot hcy
      have v2 := ho.2 j _ _ q2 hcy
      cases t' with
      | v x => cases hot
      | any => cases hot
      | s k d z r =>
        have e1 : cs.toList[j] = .slice d.addr r.length d.cap := v1
        have e2 : y = .slice d.addr r.length d.cap := y2
        rw [e2, ← e1]; exact v2
  · rw [same] at hc'
    have hlen : (mixR bs o.2).length ≤ bs.length := by
      have : ∀ (a b : List DT), (mixR a b).length ≤ a.length := by
        intro a
        induction a with
        | nil => intro b; cases b <;> simp [mixR]
        | cons x a ih => intro b; cases b with
          | nil => simp [mixR]
          | cons y b => simp only [mixR, List.length_cons]; have := ih b; omega
      exact this bs o.2
    exact hm.2.2.2 c' e' lo hi' hc' y h1 (by omega)
  · rcases hmix u hu with q | ⟨q, q2⟩
    · exact KindT_fine (R.fine o (by simp) u q)
    · rcases fine_cases (noLent_all hl u q) with q' | q' | ⟨d, z, r, rfl⟩
      · rw [q2] at q'; cases q'
      · cases u with
        | v x => trivial
        | any => trivial
        | s k d z r => cases k <;> first | (cases q2; done) | exact hkd _ q | (have := noLent_all hl _ q; cases this)
      · exact hkd _ q
  · have q := mixR_own (ts := bs) (us := o.2) x
    rw [hPo.cnt]
    simp only [ownBl, List.count_cons]
    by_cases hxe : x = b.1
    · subst hxe; simp; omega
    · have : (b.1 == x) = false := by simp; exact fun h => hxe h.symm
      simp [this, hxe]; omega
theorem Inv.homePut0 {cx : Cx} {D : DSt} {a : Act} {w w' : World} (I : Inv cx D [] a.tmps w) {x : Operand} {s : DSl} {D1 D2 : DSt} (e : Am.homeTake D x = some (s, D1)) (g : GrewH (ownBl s) w w') {o : Bool × List DT} {rd : DRes} {v : Value}
    (R : RetOk w (ownBl s) w' (boxBl s) [o] rd v) (ho : OutOk w' s (a.eval x) o) (e2 : Am.homePut0 D D1 x o = some D2) : ∃ Pr, PendOf Pr (rd.flatMap (·.2)) ∧ Inv cx D2 Pr a.tmps w' := by
  obtain ⟨P, h1, h2, h3, h4, h5⟩ := I.homeTake e
  have boxEach : ∀ {b : Nat × Nat} {us : List DT}, Lies w' b us → ∀ u ∈ us, ∃ y, VT u y := by
    rintro b us ⟨c, e, f, q1, q2⟩ u hu
    obtain ⟨j, hj⟩ := List.getElem?_of_mem hu
    obtain ⟨y, _, hy⟩ := q2 j u hj
    exact ⟨y, hy⟩
  cases x with
  | tmp t =>
    simp only [Am.homeTake] at e
    split at e
    · rename_i b ts hD
      split at e
      case isFalse => cases e
      cases e
      simp only [Am.homePut0, hD] at e2
      cases e2
      obtain ⟨o1, o2, o3⟩ := ho
      have hb := (h3.own b.1 (by simp [ownBl])).2
      exact h1.putBack h2 g R (by rw [giveUp_len]; exact lt_of_get hD) (s' := .box b o.2) (I.val t _ hD) rfl rfl ⟨o2, o3⟩ (.inl ⟨b, rfl, rfl, by simp [ownBl], hb⟩) (boxEach o2)
    · rename_i h off hD
      split at e
      case isFalse => cases e
      split at e
      case h_2 => cases e
      rename_i b ts hb
      split at e
      case isFalse => cases e
      cases e
      simp only [Am.homePut0, hD, hb] at e2
      cases e2
      obtain ⟨o1, o2, o3⟩ := ho
      have hb' := (h3.own b.1 (by simp [ownBl])).2
      exact h1.putBack h2 g R (by rw [giveUp_len]; exact lt_of_get hb) (s' := .box b o.2) (I.val h _ hb) rfl rfl ⟨o2, o3⟩ (.inl ⟨b, rfl, rfl, by simp [ownBl], hb'⟩) (boxEach o2)
    · rename_i h c st lo len hD
      split at e
      case h_2 => cases e
      rename_i d z rows hn
      split at e
      case isFalse => cases e
      rename_i hc
      obtain ⟨rfl, rfl⟩ := hc
      rw [Option.map_eq_some_iff] at e
      obtain ⟨D3, hD3, e⟩ := e
      cases e
      simp only [Am.homePut0, hD, hn] at e2
      split at e2
      case h_2 => cases e2
      rename_i k0 d0 z0 rows0 d' z' rows' hn0 ho2
      cases hn0
      split at e2
      case isFalse => cases e2
      rename_i hz
      subst hz
      obtain ⟨u, n1, n2, n3, n4, n5, n6⟩ := I.alNode hD hn
      obtain ⟨o1, o2⟩ := ho
      unfold VPart at o1
      rw [o2, ho2] at o1
      simp only [Bool.false_eq_true, if_false] at o1
      obtain ⟨t', ht', hv'⟩ := o1
      cases ht'
      have hval : Value.slice d'.addr rows'.length d'.cap = .slice d.addr rows.length d.cap := by
        have q1 : a.eval (.tmp t) = _ := hv'
        have q2 : a.tmps.getD t undef = _ := n6
        exact q1.symm.trans q2
      rw [ownBl_one] at g R
      obtain ⟨D4, Pr, k1, k2, k3⟩ := I.nodeBack n1 n2 n3 n5 g R (by rw [ho2]; simp) hval
      rw [k1] at e2
      cases e2
      exact ⟨Pr, k2, k3⟩
    · rename_i u hD
      split at e
      case isFalse hno =>
        split at e
        case h_2 => cases e
        rename_i h c hr
        split at e
        case h_2 => cases e
        rename_i d z rows hc
        rw [Option.map_eq_some_iff] at e
        obtain ⟨D', e1, e3⟩ := e
        cases e3
        obtain ⟨P', q1, q2, q3, q4, q5, q6⟩ := I.nodeTake hc e1
        obtain ⟨d0, z0, rows0, g1, g2⟩ := Inv.root hr (I.kind _ (List.mem_of_getElem? hD) u (by simp [rootsOf])) (I.val t _ hD)
        rw [hc] at g1; cases g1
        simp only [Am.homePut0, hD] at e2
        split at e2
        case h_2 => cases e2
        rename_i d1 z1 rows1 ho2
        rw [if_neg hno, hr] at e2
        obtain ⟨o1, o2⟩ := ho
        unfold VPart at o1
        rw [o2, ho2] at o1
        simp only [Bool.false_eq_true, if_false] at o1
        obtain ⟨t', ht', hv'⟩ := o1
        cases ht'
        rw [ownBl_one] at g R
        have hv2 : VT (.s .own d1 z1 rows1 : DT) (.slice d.addr rows.length d.cap) := by
          have : a.eval (.tmp t) = .slice d.addr rows.length d.cap := g2
          rw [← this]; exact hv'
        exact I.nodePut hc q6 g R (by rw [ho2]; simp) hv2 e2
      rename_i hown
      cases e
      simp only [Am.homePut0, hD] at e2
      split at e2
      case h_2 => cases e2
      rename_i d z rows ho2
      rw [if_pos hown] at e2
      cases e2
      obtain ⟨o1, o2⟩ := ho
      have heach := o1.each
      unfold VPart at o1
      rw [o2, ho2] at o1
      simp only [Bool.false_eq_true, if_false] at o1
      obtain ⟨t', ht', hv'⟩ := o1
      cases ht'
      exact h1.putBack h2 g R (by rw [giveUp_len]; exact lt_of_get hD) (s' := .one (.s .own d z rows)) hv' ho2.symm ho2.symm trivial (.inr (.inl ⟨_, rfl⟩)) heach
    · rename_i ts hD
      split at e
      case isFalse hno =>
        split at e
        case h_2 => cases e
        rename_i h c j hri
        obtain ⟨u, _, hj, hr⟩ := rootIn_some hri
        rw [Nat.sub_zero] at hj
        simp only [Am.homePut0, hD] at e2
        rw [if_neg hno, hri] at e2
        simp only at e2
        have hagg : Am.aggNode D ts h c j = some (s, D1) → (o.2[j]?).bind (Am.nodePut D h c) = some D2 → ∃ Pr, PendOf Pr (rd.flatMap (·.2)) ∧ Inv cx D2 Pr a.tmps w' := fun e e2 => by
          obtain ⟨d, z, rows, g1, g2, g3, P', q1, q2, q3, q4, q5, q6⟩ := I.aggNode hD hj hr e
          subst g2
          rw [g3] at g R
          obtain ⟨o1, o2⟩ := ho
          unfold VPart at o1
          rw [o2] at o1
          simp only [if_true] at o1
          obtain ⟨cs, hcs, hvc⟩ := o1
          rw [Option.bind_eq_some_iff] at e2
          obtain ⟨v', hv1, hv2⟩ := e2
          have hlt : j < cs.toList.length := by rw [← hvc.1]; exact lt_of_get hv1
          obtain ⟨cs', hcs', hvc'⟩ := q3.val D
          have hcc : cs' = cs := by rw [hcs] at hcs'; cases hcs'; rfl
          subst hcc
          have k1 := hvc.2 j v' _ hv1 (List.getElem?_eq_getElem hlt)
          have k2 : VT (.s .own d z rows : DT) cs'.toList[j] := hvc'.2 j _ _ (by rw [List.getElem?_set_self (lt_of_get hj)]) (List.getElem?_eq_getElem hlt)
          have k3 : cs'.toList[j] = .slice d.addr rows.length d.cap := k2
          rw [k3] at k1
          exact I.nodePut g1 q6 g R (List.mem_of_getElem? hv1) k1 hv2
        split at e
        case h_2 hnb =>
          split at e2
          · rename_i b bs hb; exact absurd hb (hnb b bs)
          · exact hagg e e2
        rename_i b bs hb
        rw [hb] at e2
        simp only at e2
        split at e
        case isFalse hc =>
          rw [if_neg hc] at e2
          exact hagg e e2
        rename_i hc
        rw [if_pos hc] at e2
        cases e
        cases e2
        obtain ⟨P', q1, q2, q3, q4, ⟨q5, q6, q7⟩, q8⟩ := I.boxAgg hD hb hc.1 hc.2.1
        obtain ⟨o1, o2⟩ := ho
        unfold VPart at o1
        rw [o2] at o1
        simp only [if_true] at o1
        obtain ⟨cs, hcs, hvc⟩ := o1
        exact I.boxBack (D1 := giveUp h D) hb hc.2.1 q1 q2 q5 q6 q7 g R hvc (q8 cs hcs)
      rename_i hl
      split at e
      case isFalse => cases e
      cases e
      simp only [Am.homePut0, hD] at e2
      rw [if_pos hl] at e2
      cases e2
      obtain ⟨o1, o2⟩ := ho
      have heach := o1.each
      unfold VPart at o1
      rw [o2] at o1
      exact h1.putBack h2 g R (by rw [giveUp_len]; exact lt_of_get hD) (s' := .agg o.2) o1 rfl rfl trivial (.inr (.inr ⟨_, rfl⟩)) heach
    · cases e
  | _ => cases e

section
variable {δ β : Type}
def goneO (o : Bool × List (T δ)) : Bool := match o with | (false, [.any]) => true | _ => false
def homePut (D D1 : St δ β) (x : Operand) (o : Bool × List (T δ)) : Option (St δ β) := if goneO o = true then some D1 else homePut0 D D1 x o
end
theorem er_goneO (o : Bool × List DT) : goneO (o.1, erL o.2) = goneO o := by
  obtain ⟨g, ts⟩ := o
  cases g with
  | true => rfl
  | false =>
    match ts with
    | [] => rfl
    | [t] => cases t <;> first | rfl | (simp only [erL, List.map_cons, List.map_nil, er_s]; rfl)
    | t :: u :: ts => cases t <;> first | rfl | (simp only [erL, List.map_cons, er_s]; rfl)
theorem er_homePut (D D1 : DSt) (x : Operand) (o : Bool × List DT) : homePut (erD D) (erD D1) x (o.1, erL o.2) = (homePut D D1 x o).map erD := by
  unfold homePut
  rw [er_goneO, er_homePut0]
  split <;> rfl
theorem Inv.dropL {cx : Cx} {D : DSt} {P Q : List (DT × Value)} {tm : Array Value} {w : World} (I : Inv cx D (P ++ Q) tm w) : Inv cx D Q tm w where
  size := I.size
  val := I.val
  mem := I.mem
  kind := I.kind
  pend := fun p hp => I.pend p (by simp [hp])
  once := fun b => by have := I.once b; rw [cntP_append] at this; omega
  bnd := fun b hb => I.bnd b (by rw [cntP_append]; omega)
  frame := I.frame
theorem Inv.homePut {cx : Cx} {D : DSt} {a : Act} {w w' : World} (I : Inv cx D [] a.tmps w) {x : Operand} {s : DSl} {D1 D2 : DSt} (e : Am.homeTake D x = some (s, D1)) (g : GrewH (ownBl s) w w') {o : Bool × List DT} {rd : DRes} {v : Value}
    (R : RetOk w (ownBl s) w' (boxBl s) [o] rd v) (ho : OutOk w' s (a.eval x) o) (e2 : Am.homePut D D1 x o = some D2) : ∃ Pr, PendOf Pr (rd.flatMap (·.2)) ∧ Inv cx D2 Pr a.tmps w' := by
  unfold Am.homePut at e2
  split at e2
  · rename_i hg
    cases e2
    obtain ⟨P, h1, h2, h3, h4, h5⟩ := I.homeTake e
    have heach : ∀ u ∈ o.2, ∃ y, VT u y := by
      unfold goneO at hg
      split at hg
      · intro u hu
        rw [List.mem_singleton] at hu
        subst hu
        exact ⟨.bool true, rfl⟩
      · cases hg
    obtain ⟨Po, hPo⟩ := pend_exists heach
    obtain ⟨Pr, hPr⟩ := pend_exists R.each
    exact ⟨Pr, hPr, (h1.back h2 g R hPo hPr).1.dropL⟩
  · exact I.homePut0 e g R ho e2
end Go.Proofs.Ytalapefcbodhaaa.Am
namespace Go.Proofs.Ytalapefcbodhaaa.Am
set_option linter.unusedVariables false
set_option linter.unusedSimpArgs false
open Go

abbrev US := St Unit Unit
def FnsOk (P : Program) (fns : FuncId → Option Func) : Prop := ∀ f fn, fns f = some fn → P.funcs[f]? = some fn ∧ (fn.name == "runtime.NumGoroutine") = false ∧ fn.body.isNone = false

def callTo (D : US) (o : Oper) : Option (FuncId × List Operand × List (Unit × List (T Unit))) :=
  match o.op with
  | .call c => match c.callee with | .value x => (match opd mkU.nil D x with | some (.fni f caps) => some (f, c.args.toList, caps) | _ => none) | _ => none
  | _ => none
theorem Inv.callTo {cx : Cx} {D : DSt} {a : Act} {w : World} (I : Inv cx D [] a.tmps w) {o : Oper} {f : FuncId} {xs : List Operand} {caps : List (Unit × List (T Unit))} (h : callTo (erD D) o = some (f, xs, caps)) :
    ∃ c x capsD, o.op = .call c ∧ c.callee = .value x ∧ xs = c.args.toList ∧ caps = capsD.map (fun p => ((), erL p.2)) ∧ AOk w [] (.fni f capsD) (a.eval x) ∧
      a.eval x = .func (.func f) #[] (capsD.map fun b => Value.pointer (some ⟨b.1.1, b.1.2, none⟩)).toArray := by
  unfold Am.callTo at h
  split at h
  case h_2 => cases h
  rename_i c hop
  split at h
  case h_2 => cases h
  rename_i x hcal
  split at h
  case h_2 => cases h
  rename_i f' caps' hx
  cases h
  rw [er_opd1, Option.map_eq_some_iff] at hx
  obtain ⟨s, h1, h2⟩ := hx
  have hv := (I.opd h1).val
  cases s with
  | fni f'' capsD =>
    simp only [Sl.er, Sl.fni.injEq] at h2
    obtain ⟨rfl, rfl⟩ := h2
    refine ⟨c, x, capsD, hop, hcal, rfl, rfl, ?_, hv⟩
    have : Am.argOf mkD D x = some (Sl.fni f'' capsD) := by
      have h1' : Am.opd mkD.nil D x = some (Sl.fni f'' capsD) := h1
      simp only [Am.argOf, h1']
    exact (I.argOf (Out.nil cx D) this).1
  | one u => cases h2
  | im k b ts off => cases h2
  | _ => cases h2
theorem ArgsOk.ims {w : World} {X : List Nat} {ad : List DSl} {vs : List Value} (h : ArgsOk w X ad vs) {f : FuncId} {caps : List ((Nat × Nat) × List DT)} {y : Value} (g : AOk w X (.fni f caps) y) :
    ArgsOk w X (ad ++ Am.ims caps) (vs ++ caps.map fun b => Value.pointer (some ⟨b.1.1, b.1.2, none⟩)) := by
  obtain ⟨h1, h2, h3⟩ := h
  refine ⟨by simp [h1, Am.ims], fun i a v hi hv => ?_, fun b => by rw [List.flatMap_append, ims_noown, List.append_nil]; exact h3 b⟩
  rcases Nat.lt_or_ge i ad.length with q | q
  · rw [List.getElem?_append_left q] at hi
    rw [List.getElem?_append_left (by omega)] at hv
    exact h2 i a v hi hv
  · rw [List.getElem?_append_right q] at hi
    rw [List.getElem?_append_right (by omega), ← h1] at hv
    exact g.ims _ a v hi hv
theorem ims_home {caps : List ((Nat × Nat) × List DT)} : ∀ a ∈ Am.ims caps, a.isHome = false := by
  intro a ha
  obtain ⟨p, _, rfl⟩ := List.mem_map.1 ha
  rfl
def addrSl (D : US) (dst : Option Nat) (offs : List Nat) (xs : List Operand) (caps : List (Unit × List (T Unit))) : Option US :=
  match xs, caps with
  | [x], [] => (cloHome D x).bind fun h => putO D dst (.clo (.arr offs) (offs.map fun _ => h))
  | _, _ => none
theorem er_putO' (D : DSt) (dst : Option Nat) (s : DSl) : putO (erD D) dst s.er = (putO D dst s).map erD := er_putO D dst s
theorem zip_const {α β : Type} (x : α) : ∀ (l : List β), ((l.map fun _ => x).zip l) = l.map fun o => (x, o)
  | [] => rfl
  | o :: l => by simp [zip_const x l]
theorem Inv.addrSl {P : Program} {tab : Tab} (ok : TabOk P tab) {cx : Cx} {D : DSt} {a : Act} {w : World} (I : Inv cx D [] a.tmps w) {f : FuncId} {offs : List Nat} (hf : tab.addr.lookup f = some offs) {dst : Option Nat} {xs : List Operand}
    {U : US} (e : addrSl (erD D) dst offs xs [] = some U) : Calls P f (xs.map a.eval).toArray w fun e w' => ∃ v, e = .returned v ∧ ∃ D', erD D' = U ∧ Inv cx D' [] (a.put dst v).tmps w' := by
  unfold Am.addrSl at e
  split at e
  case h_2 => cases e
  rename_i x _
  rw [er_cloHome, Option.bind_eq_some_iff] at e
  obtain ⟨h, h1, h2⟩ := e
  have hone : ∃ (b : Nat × Nat) (ts : List DT), D[h]? = some (.box b ts) ∧ a.eval x = .pointer (some ⟨b.1, b.2, none⟩) := by
    unfold cloHome at h1
    split at h1
    · rename_i t
      split at h1
      · rename_i b ts hb
        cases h1
        exact ⟨b, ts, hb, I.val _ _ hb⟩
      · rename_i h' hb
        cases h1
        obtain ⟨b, ts, k1, k2⟩ := I.val _ _ hb
        exact ⟨b, ts, k1, k2⟩
      · cases h1
    · cases h1
  obtain ⟨b, ts, hD, hx⟩ := hone
  have hA := ok.addr _ (mem_of_lookup hf) b w
  simp only [List.map_cons, List.map_nil, hx]
  refine hA.mono ?_
  rintro e w' ⟨rfl, g⟩
  refine ⟨_, rfl, ?_⟩
  have I2 : Inv cx D [] a.tmps w' := I.world (P' := []) (Out.nil cx D) (g.x []) (fun p hp => by cases hp) (fun b hb => by rw [cntP_nil] at hb; cases hb)
  have hT : Tells cx D w' (.clo (.arr offs) (offs.map fun _ => h)) (.agg (offs.map fun o => Value.pointer (some ⟨b.1, b.2 + o, none⟩)).toArray) := by
    refine ⟨⟨offs.map fun _ => b, by simp, fun i h' b' hi hb => ?_, ?_⟩, ⟨fun u hu => by simp [rootsOf] at hu, fun u hu => by simp [rootsO] at hu, trivial⟩, fun u hu => by simp [rootsOf] at hu, rfl⟩
    · rw [List.getElem?_map, Option.map_eq_some_iff] at hi hb
      obtain ⟨_, _, rfl⟩ := hi
      obtain ⟨_, _, rfl⟩ := hb
      exact ⟨ts, hD⟩
    · simp only [cloV, zip_const, List.map_map]
      rfl
  have h2' : putO (erD D) dst (Sl.er (.clo (.arr offs) (offs.map fun _ => h))) = some U := h2
  rw [er_putO', Option.map_eq_some_iff] at h2'
  obtain ⟨D', h3, rfl⟩ := h2'
  refine ⟨D', rfl, ?_⟩
  unfold putO at h3
  split at h3
  · cases h3
    exact I2
  · split at h3
    · cases h3
      exact I2.putA ‹_› hT
    · cases h3
def stepU (tab : Tab) (fns : FuncId → Option Func) (C : Sem1) (D : US) (o : Oper) (tk : Bool) : Option US :=
  match callTo D o with
  | some (f, xs, caps) =>
    if (fns f).isSome then
      match tab.addr.lookup f with
      | some offs => addrSl D o.dst offs xs caps
      | none =>
      match tab.io.lookup f with
      | none => (argsW mkU tab f D xs).bind fun as => (C f (as ++ ims caps)).bind fun rs => putRet mkU D o.dst rs
      | some i =>
        match caps, xs[i]? with
        | [], some x => (homeTake D x).bind fun r => (argsIo mkU r.2 r.1 i xs).bind fun as => (C f as).bind fun rs => match rs with | q :: rs => (homePut D r.2 x q).bind fun D2 => putRet mkU D2 o.dst rs | [] => none
        | _, _ => none
    else none
  | none => stepG mkU frU tab D o tk

theorem er_of_map {α : Type} {f : α → US} {x : Option α} {u : US} (h : x.map f = some u) : ∃ y, x = some y ∧ f y = u := by
  rw [Option.map_eq_some_iff] at h; exact h

theorem run_enter {P : Program} {o : Oper} {c : Call} {x : Operand} {f : FuncId} {fn : Func} {a : Act} {w : World} {ps : List Value} (hop : o.op = .call c) (hcal : c.callee = .value x) (hev : a.eval x = .func (.func f) #[] ps.toArray)
    (p1 : P.funcs[f]? = some fn) (p2 : (fn.name == "runtime.NumGoroutine") = false) (p3 : fn.body.isNone = false) : (execOp a.eval o).run P w = .ok (.enter f (c.args.toList.map a.eval ++ ps).toArray) w := by
  have e2 : (c.args.toList.map a.eval ++ ps).toArray = c.args.map a.eval ++ ps.toArray := by
    rw [← Array.toList_inj]; simp
  rw [e2]
  simp only [execOp, hop, resolve, hcal, hev]
  have p2' : ¬ fn.name = "runtime.NumGoroutine" := by simpa using p2
  have p3' : ¬ fn.body = none := by intro h; rw [h] at p3; cases p3
  simp [Deferred.ofValue, invoke, callFunc, p1, p2', p3']
theorem erR_nil {rd : DRes} : erR ([] ++ rd) = erR rd := rfl

theorem Inv.stepU {P : Program} {tab : Tab} (ok : TabOk P tab) {fns : FuncId → Option Func} (hf : FnsOk P fns) {C : Sem1} (hC : CallsOk P C) {cx : Cx} {D : DSt} {a : Act} {w : World} (I : Inv cx D [] a.tmps w)
    {o : Oper} {tk : Bool} {U : US} (e : stepU tab fns C (erD D) o tk = some U) {K : Act → World → Prop} {Q : Exit → Act → World → Prop}
    (hK : ∀ D' a' w', erD D' = U → (∃ y, a' = a.put o.dst y) → Inv cx D' [] a'.tmps w' → K a' w') : o.wp P a w K Q := by
  unfold Am.stepU at e
  split at e
  · rename_i f xs caps hc
    split at e
    case isFalse => cases e
    rename_i hfs
    obtain ⟨fn, hfn⟩ := Option.isSome_iff_exists.1 hfs
    obtain ⟨p1, p2, p3⟩ := hf f fn hfn
    obtain ⟨c, x, capsD, hop, hcal, rfl, rfl, hfa, hev⟩ := I.callTo hc
    have hex := run_enter (w := w) hop hcal hev p1 p2 p3
    unfold Oper.wp
    rw [hex]
    split at e
    · rename_i offs hoffs
      have hcaps : capsD = [] := by
        unfold Am.addrSl at e
        split at e
        · rename_i hc2; simpa using hc2
        · cases e
      subst hcaps
      have h1 := I.addrSl ok hoffs e
      simp only [List.map_nil, List.append_nil]
      refine h1.mono ?_
      rintro e0 w' ⟨v, rfl, D', h2, h3⟩
      exact hK D' _ _ h2 ⟨_, rfl⟩ h3
    split at e
    · rw [Option.bind_eq_some_iff] at e
      obtain ⟨as, h1, e⟩ := e
      rw [Option.bind_eq_some_iff] at e
      obtain ⟨rs, h2, h3⟩ := e
      rw [er_argsW] at h1
      obtain ⟨ad, h1', rfl⟩ := Option.map_eq_some_iff.1 h1
      obtain ⟨hA, hN⟩ := I.argsW (Out.nil cx D) h1'
      have hA2 := hA.ims hfa
      have hN2 : ∀ s ∈ ad ++ ims capsD, s.isHome = false := fun s hs => (List.mem_append.1 hs).elim (hN s) (ims_home s)
      have hcall := hC f _ rs h2 w [] (ad ++ ims capsD) _ (by rw [List.map_append, er_ims]) hA2
      refine hcall.mono ?_
      rintro e w' ⟨v, od, rd, rfl, g, hr, hO, R⟩
      have := OutsOk.none hN2 hO
      subst this
      subst hr
      rw [erR_nil, er_putRet] at h3
      obtain ⟨D', h3', rfl⟩ := Option.map_eq_some_iff.1 h3
      exact hK D' _ _ rfl ⟨_, rfl⟩ (I.putRet g.grew R h3')
    · rename_i i hio
      split at e
      case h_2 => cases e
      rename_i x0 hcaps hx0
      have hcd : capsD = [] := by simpa using hcaps
      subst hcd
      rw [Option.bind_eq_some_iff] at e
      obtain ⟨⟨s, D1⟩, h1, e⟩ := e
      rw [er_homeTake] at h1
      obtain ⟨⟨sd, Dd1⟩, h1', h1e⟩ := Option.map_eq_some_iff.1 h1
      cases h1e
      rw [Option.bind_eq_some_iff] at e
      obtain ⟨as, h2, e⟩ := e
      rw [Option.bind_eq_some_iff] at e
      obtain ⟨rs, h3, e⟩ := e
      simp only at h2
      rw [er_argsIo] at h2
      obtain ⟨ad, h2', rfl⟩ := Option.map_eq_some_iff.1 h2
      obtain ⟨Pd, k1, k2, k3, k4, k5⟩ := I.homeTake h1'
      obtain ⟨hA, hB, hOne⟩ := k1.argsIo k2 k3 k4 hx0 h2'
      have hcall := hC f _ rs h3 w (ownBl sd) ad _ rfl hA
      simp only [List.map_nil, List.append_nil]
      refine hcall.mono ?_
      rintro e0 w' ⟨v, od, rd, rfl, g, hr, hO, R⟩
      obtain ⟨q, rfl, hq⟩ := OutsOk.one k5 hOne hO
      subst hr
      rw [OneHome.box hOne] at R
      simp only [List.singleton_append, erR, List.map_cons] at e
      rw [Option.bind_eq_some_iff] at e
      obtain ⟨U2, e1, e2⟩ := e
      rw [er_homePut] at e1
      obtain ⟨D2, e1', rfl⟩ := Option.map_eq_some_iff.1 e1
      obtain ⟨Pr, n1, n2⟩ := I.homePut h1' g R hq e1'
      have e2' : Am.putRet mkU (erD D2) o.dst (erR rd) = some U := e2
      rw [er_putRet] at e2'
      obtain ⟨D', e3, rfl⟩ := Option.map_eq_some_iff.1 e2'
      exact hK D' _ _ rfl ⟨_, rfl⟩ (n2.putRetP R n1 e3)
  · rw [er_stepG w] at e
    obtain ⟨D', e', rfl⟩ := Option.map_eq_some_iff.1 e
    obtain ⟨nx, w', h1, h2⟩ := step_sound ok I e'
    unfold Oper.wp
    rw [h1]
    cases h2 with
    | value y h => exact hK D' _ _ rfl ⟨_, rfl⟩ h
    | skip hd h =>
      show K (a.put o.dst undef) w'
      refine hK D' _ _ rfl ⟨_, rfl⟩ ?_
      rw [hd]
      exact h

def yieldAt {δ β : Type} (D : St δ β) (t : Nat) : Option (Option Bool) :=
  match D[t]? with
  | some (.one (.v (.bool b))) => some (some b)
  | some (.tup []) => some none
  | _ => none
theorem er_yieldAt (D : DSt) (t : Nat) : yieldAt (erD D) t = yieldAt D t := by
  unfold yieldAt
  rw [er_get]
  cases D[t]? with
  | none => rfl
  | some s =>
    cases s with
    | one u =>
      cases u with
      | s k d z r => simp [Sl.er, er_s]
      | v x => cases x <;> rfl
      | any => rfl
    | tup rs => cases rs <;> rfl
    | _ => rfl
theorem Inv.yieldAt {cx : Cx} {D : DSt} {P : List (DT × Value)} {tm : Array Value} {w : World} (I : Inv cx D P tm w) {t : Nat} {y : Option Bool} (e : yieldAt D t = some y) :
    (match tm[t]? with | some (.bool b) => some b | _ => none) = y := by
  unfold Am.yieldAt at e
  have key : ∀ s, D[t]? = some s → VS D s (tm.getD t undef) ∧ tm[t]? = some (tm.getD t undef) := by
    intro s h
    have hlt : t < tm.size := by
      rw [← I.size]
      rcases Nat.lt_or_ge t D.length with g | g
      · exact g
      · rw [List.getElem?_eq_none g] at h; cases h
    refine ⟨I.val t _ h, ?_⟩
    rw [Array.getD_eq_getD_getElem?, Array.getElem?_eq_getElem hlt]; rfl
  split at e
  · rename_i b' h
    cases e
    obtain ⟨h1, h2⟩ := key _ h
    rw [h2, show tm.getD t undef = .bool b' from h1.1]
  · rename_i h
    cases e
    obtain ⟨⟨vs, h1, _⟩, h2⟩ := key _ h
    rw [h2, h1]
  · cases e
theorem Inv.putUndef {cx : Cx} {D : DSt} {a : Act} {w : World} (I : Inv cx D [] a.tmps w) {t : Nat} (ht : t < D.length) : Inv cx (Am.putA D t (.tup [])) [] (a.put (some t) undef).tmps w :=
  I.putA ht ⟨⟨#[], rfl, rfl, fun i r v h => by simp at h⟩, ⟨fun u hu => by simp [rootsOf] at hu, fun u hu => by simp [rootsO] at hu, trivial⟩, fun u hu => by simp [rootsOf] at hu, rfl⟩

def runOps (tab : Tab) (fns : FuncId → Option Func) (C : Sem1) (tk : Nat → Bool) (ops : Array Oper) : List Oper → Nat → US → Option US
  | [], _, D => some D
  | o :: r, i, D =>
    match o.guard with
    | none => (stepU tab fns C D o (tk i)).bind (runOps tab fns C tk ops r (i + 1))
    | some (j, want) =>
      match ((ops[j]?).bind (·.dst)).bind (yieldAt D) with
      | some b => if b = some want then (stepU tab fns C D o (tk i)).bind (runOps tab fns C tk ops r (i + 1)) else
        (match o.dst with | none => some D | some t => if t < D.length then some (putA D t (.tup [])) else none).bind (runOps tab fns C tk ops r (i + 1))
      | none => none

theorem Inv.runOps2 {P : Program} {tab : Tab} (ok : TabOk P tab) {fns : FuncId → Option Func} (hf : FnsOk P fns) {C : Sem1} (hC : CallsOk P C) {tk : Nat → Bool} {ops : Array Oper} {Q : Exit → Act → World → Prop} {cx : Cx} {U : US}
    {T : Act → Prop} {l2 : List Oper} (hQ : ∀ D' a' w', erD D' = U → T a' → Inv cx D' [] a'.tmps w' → wpList P ops Q l2 a' w') : ∀ (l : List Oper) (i : Nat) {D : DSt} {a : Act} {w : World}, (∀ o ∈ l, ∀ a y, T a → T (a.put o.dst y)) → Inv cx D [] a.tmps w → T a →
      runOps tab fns C tk ops l i (erD D) = some U → wpList P ops Q (l ++ l2) a w
  | [], i, D, a, w, _, I, hd, e => by cases e; exact hQ D a w rfl hd I
  | o :: l, i, D, a, w, hT, I, hd, e => by
    have hT' : ∀ o ∈ l, ∀ a y, T a → T (a.put o.dst y) := fun o' h => hT o' (by simp [h])
    have go : Region.wanted o (yielded ops a.tmps) = true → (Am.stepU tab fns C (erD D) o (tk i)).bind (Am.runOps tab fns C tk ops l (i + 1)) = some U → wpList P ops Q (o :: (l ++ l2)) a w := by
      intro hw e
      rw [Option.bind_eq_some_iff] at e
      obtain ⟨U1, e1, e2⟩ := e
      unfold wpList
      rw [if_pos hw]
      refine .inl (I.stepU ok hf hC e1 fun D' a' w' h1 h2 h3 => ?_)
      subst h1
      obtain ⟨y, rfl⟩ := h2
      exact Inv.runOps2 ok hf hC hQ l (i + 1) hT' h3 (hT o (by simp) a y hd) e2
    show wpList P ops Q (o :: (l ++ l2)) a w
    unfold Am.runOps at e
    split at e
    · rename_i hg
      exact go (by simp [Region.wanted, hg]) e
    · rename_i j want hg
      split at e
      case h_2 => cases e
      rename_i b hb
      have hy : yielded ops a.tmps j = b := by
        rw [Option.bind_eq_some_iff] at hb
        obtain ⟨t, h1, h2⟩ := hb
        rw [er_yieldAt] at h2
        have := I.yieldAt h2
        unfold yielded
        rw [h1]
        exact this
      split at e
      · rename_i hbw
        exact go (by simp [Region.wanted, hg, hy, hbw]) e
      · rename_i hbw
        unfold wpList
        rw [if_neg (by simp [Region.wanted, hg, hy, hbw])]
        rw [Option.bind_eq_some_iff] at e
        obtain ⟨U1, e1, e2⟩ := e
        split at e1
        · rename_i hdst
          cases e1
          rw [hdst]
          exact Inv.runOps2 ok hf hC hQ l (i + 1) hT' I hd e2
        · rename_i t hdst
          rw [er_len] at e1
          split at e1
          case isFalse => cases e1
          rename_i ht
          cases e1
          have := I.putUndef ht
          have hd' := hT o (by simp) a undef hd
          rw [hdst] at hd' ⊢
          exact Inv.runOps2 (tk := tk) ok hf hC hQ l (i + 1) hT' this hd' (by rw [er_putA]; exact e2)
theorem Inv.runOps {P : Program} {tab : Tab} (ok : TabOk P tab) {fns : FuncId → Option Func} (hf : FnsOk P fns) {C : Sem1} (hC : CallsOk P C) {tk : Nat → Bool} {ops : Array Oper} {Q : Exit → Act → World → Prop} {cx : Cx} {U : US}
    {T : Act → Prop} (hQ : ∀ D' a' w', erD D' = U → T a' → Inv cx D' [] a'.tmps w' → Q .normal a' w') (l : List Oper) (i : Nat) {D : DSt} {a : Act} {w : World} (hT : ∀ o ∈ l, ∀ a y, T a → T (a.put o.dst y)) (I : Inv cx D [] a.tmps w) (hd : T a)
    (e : Am.runOps tab fns C tk ops l i (erD D) = some U) : wpList P ops Q l a w := by
  have := Inv.runOps2 (l2 := []) (Q := Q) ok hf hC hQ l i hT I hd e
  rwa [List.append_nil] at this
end Go.Proofs.Ytalapefcbodhaaa.Am
namespace Go.Proofs.Ytalapefcbodhaaa.Am
set_option linter.unusedVariables false
set_option linter.unusedSimpArgs false
open Go

section
variable {δ β : Type}
def kill1 (D : St δ β) (t : Nat) : St δ β := if t < D.length then putSl D (some t) .any else D
def killAll (l : List Nat) (D : St δ β) : St δ β := l.foldl kill1 D
theorem kill1_length (D : St δ β) (t : Nat) : (kill1 D t).length = D.length := by
  unfold kill1
  split
  · simp [putSl, giveUp, St.dead]
  · rfl
theorem kill1_get (D : St δ β) (t u : Nat) (h : t < D.length) : (kill1 D t)[u]? = if u = t then some .any else (D[u]?).map (Sl.clean t) := by
  unfold kill1
  rw [if_pos h]
  simp only [putSl, giveUp]
  by_cases e : u = t
  · subst e
    rw [if_pos rfl, List.getElem?_set_self (by simp [St.dead]; exact h)]
    rfl
  · rw [if_neg e, List.getElem?_set_ne (fun q => e q.symm), List.getElem?_set_ne (fun q => e q.symm)]
    simp only [St.dead, List.getElem?_map, Option.map_map]
    rfl
theorem killAll_length (l : List Nat) : ∀ (D : St δ β), (killAll l D).length = D.length := by
  induction l with
  | nil => intro D; rfl
  | cons a l ih => intro D; simp only [killAll, List.foldl_cons]; exact (ih _).trans (kill1_length D a)
theorem killAll_congr : ∀ (l : List Nat) {D D' : St δ β}, D.length = D'.length → (∀ u, u ∉ l → D[u]? = D'[u]?) → killAll l D = killAll l D'
  | [], D, D', hl, h => List.ext_getElem? fun u => h u (by simp)
  | a :: l, D, D', hl, h => by
    simp only [killAll, List.foldl_cons]
    refine killAll_congr l (by rw [kill1_length, kill1_length, hl]) fun u hu => ?_
    by_cases ha : a < D.length
    · rw [kill1_get D a u ha, kill1_get D' a u (hl ▸ ha)]
      by_cases e : u = a
      · rw [if_pos e, if_pos e]
      · rw [if_neg e, if_neg e, h u (by simp [e, hu])]
    · have ha' : ¬ a < D'.length := hl ▸ ha
      unfold kill1
      rw [if_neg ha, if_neg ha']
      by_cases e : u = a
      · subst e
        rw [List.getElem?_eq_none (by omega), List.getElem?_eq_none (by omega)]
      · exact h u (by simp [e, hu])
end
theorem killAll_any {δ β : Type} {t : Nat} : ∀ (l : List Nat) {D : St δ β}, t < D.length → t ∈ l ∨ D[t]? = some .any → (killAll l D)[t]? = some .any
  | [], D, _, h => by
    rcases h with h | h
    · cases h
    · exact h
  | a :: l, D, hl, h => by
    simp only [killAll, List.foldl_cons]
    refine killAll_any l (by rw [kill1_length]; exact hl) ?_
    by_cases ha : a < D.length
    · rw [kill1_get D a t ha]
      by_cases e : t = a
      · right; rw [if_pos e]
      · rw [if_neg e]
        rcases h with h | h
        · left; simpa [e] using h
        · right; rw [h]; rfl
    · rcases h with h | h
      · left
        have : t ≠ a := by omega
        simpa [this] using h
      · right; unfold kill1; rw [if_neg ha]; exact h
theorem er_kill1 (D : DSt) (t : Nat) : erD (kill1 D t) = kill1 (erD D) t := by
  unfold kill1
  rw [er_len]
  split
  · exact er_putSl D (some t) .any
  · rfl
theorem er_killAll (l : List Nat) : ∀ (D : DSt), erD (killAll l D) = killAll l (erD D) := by
  induction l with
  | nil => intro D; rfl
  | cons a l ih => intro D; simp only [killAll, List.foldl_cons]; rw [← er_kill1]; exact ih _
theorem Inv.kill1 {cx : Cx} {D : DSt} {tm : Array Value} {w : World} (I : Inv cx D [] tm w) (t : Nat) : Inv cx (kill1 D t) [] tm w := by
  unfold Am.kill1
  split
  · exact I.lose ‹_›
  · exact I
theorem Inv.killAll {cx : Cx} {tm : Array Value} {w : World} (l : List Nat) : ∀ {D : DSt}, Inv cx D [] tm w → Inv cx (killAll l D) [] tm w := by
  induction l with
  | nil => intro D I; exact I
  | cons a l ih => intro D I; simp only [Am.killAll, List.foldl_cons]; exact ih (I.kill1 a)

theorem own_of_dead {p : Nat → Nat → Bool} {t u : DT} (h : t.dead p = u) (ho : u.isOwn = true) : t = u := by
  cases t with
  | v x => exact h
  | any => exact h
  | s k d z r =>
    cases k with
    | own => exact h
    | far => exact h
    | lent h' c' fl =>
      simp only [T.dead] at h
      split at h <;> (subst h; cases ho)
theorem cellAt_kill1 {D : DSt} {t h c : Nat} {u : DT} (e : cellAt (kill1 D t) h c = some u) (ho : u.isOwn = true) : cellAt D h c = some u := by
  by_cases ht : t < D.length
  · unfold cellAt at e
    rw [kill1_get D t h ht] at e
    by_cases hh : h = t
    · rw [if_pos hh] at e; simp [homeCells] at e
    · rw [if_neg hh] at e
      have : cellAt D h c = (D[h]?.bind homeCells).bind (·[c]?) := rfl
      rw [this]
      cases hd : D[h]? with
      | none => rw [hd] at e; simp at e
      | some s =>
        rw [hd] at e
        simp only [Option.map_some, Option.bind_some, Sl.clean, homeCells_gone, homeCells_dead] at e ⊢
        cases hc : homeCells s with
        | none => rw [hc] at e; simp at e
        | some cs =>
          rw [hc] at e
          simp only [Option.map_some, Option.bind_some, List.getElem?_map] at e ⊢
          rw [Option.map_eq_some_iff] at e
          obtain ⟨u0, h1, h2⟩ := e
          rw [h1, own_of_dead h2 ho]
  · unfold kill1 at e
    rw [if_neg ht] at e
    exact e
theorem box_kill1 {D : DSt} {t h : Nat} {b : Nat × Nat} {ts : List DT} (e : (kill1 D t)[h]? = some (.box b ts)) : ∃ ts0, D[h]? = some (.box b ts0) := by
  by_cases ht : t < D.length
  · rw [kill1_get D t h ht] at e
    by_cases hh : h = t
    · rw [if_pos hh] at e; cases e
    · rw [if_neg hh, Option.map_eq_some_iff] at e
      obtain ⟨s, h1, h2⟩ := e
      rw [h1]
      cases s with
      | box b' ts' => simp only [Sl.clean, Sl.dead, Sl.gone] at h2; cases h2; exact ⟨_, rfl⟩
      | al => simp only [Sl.clean, Sl.dead] at h2; split at h2 <;> cases h2
      | pe => simp only [Sl.clean, Sl.dead] at h2; split at h2 <;> cases h2
      | pb => simp only [Sl.clean, Sl.dead, Sl.gone] at h2; split at h2 <;> cases h2
      | clo => simp only [Sl.clean, Sl.dead, Sl.gone] at h2; split at h2 <;> cases h2
      | im k b ts off =>
        cases k with
        | lent => simp only [Sl.clean, Sl.dead] at h2; split at h2 <;> cases h2
        | _ => cases h2
      | _ => cases h2
  · unfold kill1 at e
    rw [if_neg ht] at e
    exact ⟨ts, e⟩
theorem ownNode_kill1 {D : DSt} {t h c : Nat} {st : List (Nat × Nat)} {d : Dec} {z n : Nat} (e : ownNode (kill1 D t) h c st d z n) : ownNode D h c st d z n := by
  obtain ⟨u, h1, h2, h3⟩ := e
  exact ⟨u, cellAt_kill1 h1 h2, h2, h3⟩
theorem VS_kill1 {D : DSt} {t : Nat} {s : DSl} {y : Value} (h : VS (kill1 D t) s y) : VS D s y := by
  cases s with
  | al h' c st lo len => obtain ⟨d, z, n, a, h1, h2⟩ := h; exact ⟨d, z, n, a, ownNode_kill1 h1, h2⟩
  | pe h' c st i off => obtain ⟨d, z, n, h1, h2⟩ := h; exact ⟨d, z, n, ownNode_kill1 h1, h2⟩
  | pb h' off => obtain ⟨b, ts, h1, h2⟩ := h; obtain ⟨ts0, h3⟩ := box_kill1 h1; exact ⟨b, ts0, h3, h2⟩
  | clo f hs =>
    obtain ⟨bs, h1, h2, h3⟩ := h
    refine ⟨bs, h1, fun i h' b hi hb => ?_, h3⟩
    obtain ⟨ts, h4⟩ := h2 i h' b hi hb
    exact box_kill1 h4
  | _ => exact h
theorem KindT_kill1 {cx : Cx} {D : DSt} {t : Nat} {u : DT} (h : KindT cx (kill1 D t) u) : KindT cx D u := by
  cases u with
  | v x => trivial
  | any => trivial
  | s k d z r =>
    cases k with
    | own => trivial
    | far => exact h
    | lent h' c' fl => obtain ⟨v, h1, h2, h3⟩ := h; exact ⟨v, cellAt_kill1 h1 h2, h2, h3⟩
theorem KindS_kill1 {cx : Cx} {D : DSt} {t : Nat} {s : DSl} (h : KindS cx (kill1 D t) s) : KindS cx D s := by
  cases s with
  | im k b ts off =>
    cases k with
    | own => exact h
    | far => exact h
    | lent h' c' fl => obtain ⟨v, h1, h2, h3⟩ := h; exact ⟨v, cellAt_kill1 h1 h2, h2, h3⟩
  | fni f caps => exact h
  | _ => exact fun u hu => KindT_kill1 (h u hu)
theorem Tells.kill {cx : Cx} {w : World} {s : DSl} {y : Value} (l : List Nat) : ∀ {D : DSt}, Tells cx (killAll l D) w s y → Tells cx D w s y := by
  induction l with
  | nil => intro D h; exact h
  | cons a l ih =>
    intro D h
    simp only [Am.killAll, List.foldl_cons] at h
    have h' := ih h
    exact ⟨VS_kill1 h'.val, h'.mem, KindS_kill1 h'.kind, h'.noown⟩

theorem clean_noref {t : Nat} {s : DSl} (h : ¬ refs t s) : s.clean t = s := by
  have hT : ∀ u : DT, ¬ (∃ c fl d z r, u = .s (.lent t c fl) d z r) → u.dead (atH t) = u := by
    intro u hu
    cases u with
    | v x => rfl
    | any => rfl
    | s k d z r =>
      cases k with
      | own => rfl
      | far => rfl
      | lent h' c' fl =>
        have hne : atH t h' c' = false := by
          cases e : atH t h' c' with
          | false => rfl
          | true =>
            have e : h' = t := by simpa [atH] using e
            subst e
            exact absurd ⟨c', fl, d, z, r, rfl⟩ hu
        simp [T.dead, hne]
  have hL : ∀ us : List DT, ¬ (∃ u ∈ us, ∃ c fl d z r, u = .s (.lent t c fl) d z r) → us.map (T.dead (atH t)) = us := by
    intro us hu
    conv => rhs; rw [← List.map_id us]
    exact List.map_congr_left fun u hm => hT u fun ⟨c, fl, d, z, r, e⟩ => hu ⟨u, hm, c, fl, d, z, r, e⟩
  unfold Sl.clean
  cases s with
  | any => rfl
  | one u => simp only [Sl.dead, Sl.gone]; rw [hT u h]
  | agg ts => simp only [Sl.dead, Sl.gone]; rw [hL ts h]
  | box b ts => simp only [Sl.dead, Sl.gone]; rw [hL ts h]
  | al h' c st lo len =>
    have : ¬ h' = t := h
    simp [Sl.dead, Sl.gone, qH, this]
  | pe h' c st i off =>
    have : ¬ h' = t := h
    simp [Sl.dead, Sl.gone, qH, this]
  | pb h' off =>
    have : ¬ h' = t := h
    simp [Sl.dead, Sl.gone, this]
  | im k b ts off =>
    cases k with
    | own => rfl
    | far => rfl
    | lent h' c' fl =>
      have : ¬ h' = t := h
      simp [Sl.dead, Sl.gone, atH, this]
  | fni f caps => rfl
  | clo f hs =>
    have : ¬ t ∈ hs := h
    simp [Sl.dead, Sl.gone, this]
  | tup rs =>
    simp only [Sl.dead, Sl.gone]
    congr 1
    conv => rhs; rw [← List.map_id rs]
    refine List.map_congr_left fun r hr => ?_
    rw [hL r.2 fun ⟨u, hu, c, fl, d, z, r', e⟩ => h ⟨r, hr, u, hu, c, fl, d, z, r', e⟩]
    rfl
theorem putSl_quiet {D : DSt} {t : Nat} {s : DSl} (hD : ∀ s' ∈ D, ¬ refs t s') (hs : ¬ refs t s) : putSl D (some t) s = D.set t s := by
  simp only [putSl]
  rw [clean_noref hs]
  have : (St.dead (atH t) (qH t) D).map (Sl.gone t) = D := by
    simp only [St.dead, List.map_map]
    conv => rhs; rw [← List.map_id D]
    exact List.map_congr_left fun s' hs' => clean_noref (hD s' hs')
  unfold giveUp
  rw [this, List.set_set]

def aftOf (ops : Array Oper) (j : Nat) : List Nat :=
  match ops[j]? with
  | some o => (o.after.toList.filter (Region.binds .any)).map (·.on)
  | none => []
def dstsOf (ops : Array Oper) (m : Nat) : List Nat := (List.range m).filterMap fun i => (ops[i]?).bind (·.dst)
def stepV (tab : Tab) (fns : FuncId → Option Func) (C : Sem1) (M : US) (o : Oper) : Option (Sl Unit Unit) :=
  match callTo M o with
  | some (f, xs, caps) => if (fns f).isSome ∧ tab.io.lookup f = none then (argsW mkU tab f M xs).bind fun as => (C f (as ++ ims caps)).bind fun rs => retSl mkU rs else none
  | none =>
    match o.op with
    | .buildSlice t len parts =>
      match o.dst with
      | some d => (buildSliceSl mkU frU tab M (some d) t len parts.toList).bind fun U => match U[d]? with | some (.one u) => if u.isOwn then some (.one u) else none | _ => none
      | none => none
    | .alloc bt => (tab.ti bt).map fun ti => .box () (ti.zero.map (T.inj ()))
    | op => eval1 mkU tab M op
def guardV (ops : Array Oper) (M : US) (o : Oper) (K : Option (Sl Unit Unit)) : Option (Sl Unit Unit) :=
  match o.guard with
  | none => K
  | some (j, want) =>
    match ((ops[j]?).bind (·.dst)).bind (yieldAt M) with
    | some b => if b = some want then K else some (.tup [])
    | none => none
theorem retSl_norefs {rd : DRes} (hf : ∀ r ∈ rd, ∀ t ∈ r.2, t.fine = true) {s : DSl} (h : retSl mkD rd = some s) (t : Nat) : ¬ refs t s := by
  have hno : ∀ r ∈ rd, ∀ u ∈ r.2, ¬ ∃ c fl d z r, u = (.s (.lent t c fl) d z r : DT) := by
    rintro r hr u hu ⟨c, fl, d, z, r', rfl⟩
    exact absurd (hf r hr _ hu) (by simp [T.fine])
  unfold retSl at h
  split at h
  · rename_i r
    split at h
    · rename_i b row hp
      cases h
      rintro ⟨u, hu, c, fl, d, z, r', rfl⟩
      unfold ptrOf at hp
      split at hp
      case h_2 => cases hp
      unfold ptrCell at hp
      split at hp
      case h_2 => cases hp
      split at hp
      case isFalse => cases hp
      rename_i hf'
      cases hp
      exact absurd (List.all_eq_true.1 hf' _ hu) (by simp [T.fine])
    obtain ⟨g, ts⟩ := r
    cases g with
    | true => cases h; exact fun ⟨u, hu, e⟩ => hno _ (List.mem_singleton_self _) u hu e
    | false =>
      match ts, h with
      | [u], h => cases h; exact fun e => hno _ (List.mem_singleton_self _) u (List.mem_singleton_self _) e
  · cases h
    exact fun ⟨r, hr, u, hu, e⟩ => hno r hr u hu e
theorem not_refs_tup0 (t : Nat) : ¬ refs t (.tup []) := fun ⟨r, hr, _⟩ => by cases hr

theorem Inv.stepV {P : Program} {tab : Tab} (ok : TabOk P tab) {fns : FuncId → Option Func} (hf : FnsOk P fns) {C : Sem1} (hC : CallsOk P C) {cx : Cx} {D : DSt} {a : Act} {w : World} (I : Inv cx D [] a.tmps w)
    {l : List Nat} {o : Oper} {t : Nat} (hd : o.dst = some t) (ha : D[t]? = some .any) {s : Sl Unit Unit} (e : Am.stepV tab fns C (Am.killAll l (erD D)) o = some s) {K : Act → World → Prop} {Q : Exit → Act → World → Prop}
    (hK : ∀ D' a' w', erD D' = (erD D).set t s → (∃ y, a' = a.put o.dst y) → Inv cx D' [] a'.tmps w' → K a' w') : o.wp P a w K Q := by
  have htl : t < D.length := by
    rcases Nat.lt_or_ge t D.length with g | g
    · exact g
    · rw [List.getElem?_eq_none g] at ha; cases ha
  rw [← er_killAll] at e
  have IM := I.killAll l
  unfold Am.stepV at e
  split at e
  · rename_i f xs caps hc
    split at e
    case isFalse => cases e
    rename_i hfs
    obtain ⟨fn, hfn⟩ := Option.isSome_iff_exists.1 hfs.1
    obtain ⟨p1, p2, p3⟩ := hf f fn hfn
    rw [Option.bind_eq_some_iff] at e
    obtain ⟨as, h1, e⟩ := e
    rw [Option.bind_eq_some_iff] at e
    obtain ⟨rs, h2, h3⟩ := e
    rw [er_argsW] at h1
    obtain ⟨ad, h1', rfl⟩ := Option.map_eq_some_iff.1 h1
    obtain ⟨hA, hN⟩ := IM.argsW (Out.nil cx _) h1'
    obtain ⟨c, x, capsD, hop, hcal, rfl, rfl, hfa, hev⟩ := IM.callTo hc
    have hA2 := hA.ims hfa
    have hN2 : ∀ s ∈ ad ++ ims capsD, s.isHome = false := fun s hs => (List.mem_append.1 hs).elim (hN s) (ims_home s)
    have hcall := hC f _ rs h2 w [] (ad ++ ims capsD) _ (by rw [List.map_append, er_ims]) hA2
    have hex := run_enter (w := w) hop hcal hev p1 p2 p3
    unfold Oper.wp
    rw [hex]
    refine hcall.mono ?_
    rintro e w' ⟨v, od, rd, rfl, g, hr, hO, R⟩
    have := OutsOk.none hN2 hO
    subst this
    rw [erR_nil] at hr
    subst hr
    rw [er_retSl] at h3
    obtain ⟨sd, h3', rfl⟩ := Option.map_eq_some_iff.1 h3
    have hput : Am.putRet mkD D o.dst rd = some (putSl D (some t) sd) := by
      rw [hd]; simp only [Am.putRet]; rw [if_pos htl, h3']; rfl
    have I2 := I.putRet (a := a) g.grew R hput
    have hq : putSl D (some t) sd = D.set t sd := putSl_quiet (fun s' hs' => by
      obtain ⟨u, hu⟩ := List.getElem?_of_mem hs'
      exact I.any_refs ha (I.val u s' hu) (I.kind s' hs')) (retSl_norefs (by simpa using R.fine) h3' t)
    rw [hq] at I2
    exact hK _ _ _ (er_set D t sd) ⟨_, rfl⟩ I2
  · split at e
    · rename_i bt len parts hop
      rw [hd] at e
      simp only at e
      rw [Option.bind_eq_some_iff] at e
      obtain ⟨U, k1, k2⟩ := e
      rw [er_buildSliceSl w] at k1
      obtain ⟨DM', k3, rfl⟩ := Option.map_eq_some_iff.1 k1
      obtain ⟨y, w', d', dc, z, rows, j1, j2, j3, j4, j5⟩ := buildSlice_ret ok IM k3
      cases j1
      subst j2
      have hget : (erD (putSl (Am.killAll l D) (some t) (.one (.s .own dc z rows))))[t]? = some (.one (.s .own () z (rows.map erL))) := by
        rw [er_get]
        have hl : t < (giveUp t (Am.killAll l D)).length := by simp [giveUp, St.dead, killAll_length]; exact htl
        simp only [putSl]
        rw [List.getElem?_set_self hl]
        simp [Sl.clean, Sl.dead, Sl.gone, T.dead, Sl.er, er_s]
      rw [hget] at k2
      simp only [T.isOwn, if_true] at k2
      cases k2
      have R : RetOk w [] w' [] [] [(false, [(.s .own dc z rows : DT)])] y := by
        refine ⟨.inl ⟨_, rfl, ?_⟩, fun r hr u hu => ?_, fun r hr u hu => ?_, fun r hr u hu _ => ?_, fun b => ?_, fun b hb => ?_⟩
        · simp only [VPart, Bool.false_eq_true, if_false]
          exact ⟨_, rfl, j5.val⟩
        · rw [List.nil_append, List.mem_singleton] at hr; subst hr; rw [List.mem_singleton] at hu; subst hu; rfl
        · rw [List.nil_append, List.mem_singleton] at hr; subst hr; rw [List.mem_singleton] at hu; subst hu; exact j5.holds
        · rw [List.nil_append, List.mem_singleton] at hr; subst hr; rw [List.mem_singleton] at hu; subst hu; exact j5.own
        · simpa [ownR, T.isOwn, resBl] using j5.once b
        · have := j5.new b (by simpa [ownR, T.isOwn, resBl] using hb)
          exact ⟨.inl this.1, this.2⟩
      have hput : Am.putRet mkD D o.dst [(false, [(.s .own dc z rows : DT)])] = some (putSl D (some t) (.one (.s .own dc z rows))) := by
        rw [hd]; simp only [Am.putRet]; rw [if_pos htl]; rfl
      have I2 := I.putRet (a := a) j4 R hput
      have hq : putSl D (some t) (.one (.s .own dc z rows)) = D.set t (.one (.s .own dc z rows)) := putSl_quiet (fun s' hs' => by
        obtain ⟨u, hu⟩ := List.getElem?_of_mem hs'
        exact I.any_refs ha (I.val u s' hu) (I.kind s' hs')) (fun ⟨c, fl, d, z, r, h⟩ => by cases h)
      rw [hq] at I2
      have hex : (execOp a.eval o).run P w = .ok (.value y) w' := by simp [execOp, hop, j3]
      unfold Oper.wp
      rw [hex]
      exact hK _ _ _ (by rw [er_set]; simp [Sl.er, er_s]) ⟨_, rfl⟩ I2
    · rename_i bt hop
      rw [Option.map_eq_some_iff] at e
      obtain ⟨ti, hti, rfl⟩ := e
      have hal : allocSl mkD (frD w) tab D (some t) bt = some (putSl D (some t) (.box (frD w).box (ti.zero.map (T.inj mkD.nil)))) := by
        simp only [allocSl, hti]
        rw [if_pos htl]
      obtain ⟨y, w', h1, h2⟩ := alloc_sound ok I hal
      obtain ⟨z, g1, g2, g3⟩ := ti_zero (Tab.ok ok hti) w
      have hfine : ∀ t ∈ ti.zero.map (T.inj mkD.nil), t.fine = true := by
        intro t ht
        rw [g2] at ht
        simp only [List.mem_map, zerosOf, List.mem_mapIdx] at ht
        obtain ⟨u, ⟨j, hj, rfl⟩, rfl⟩ := ht
        unfold zT
        split <;> rfl
      have hq : putSl D (some t) (.box (frD w).box (ti.zero.map (T.inj mkD.nil))) = D.set t (.box (frD w).box (ti.zero.map (T.inj mkD.nil))) := putSl_quiet (fun s' hs' => by
        obtain ⟨u, hu⟩ := List.getElem?_of_mem hs'
        exact I.any_refs ha (I.val u s' hu) (I.kind s' hs')) (fun ⟨u, hu, c, fl, d, z, r, h⟩ => by
          have := hfine u hu
          rw [h] at this
          simp [T.fine] at this)
      rw [hq] at h2
      have hex : (execOp a.eval o).run P w = .ok (.value y) w' := by simp [execOp, hop, h1]
      unfold Oper.wp
      rw [hex]
      rw [← hd] at h2
      exact hK _ _ _ (by
        rw [er_set]
        show (erD D).set t (.box () (erL (ti.zero.map (T.inj mkD.nil)))) = _
        rw [← er_zeros]) ⟨_, rfl⟩ h2
    rw [er_eval1] at e
    obtain ⟨sd, e', rfl⟩ := Option.map_eq_some_iff.1 e
    obtain ⟨y, h1, h2⟩ := eval1_sound ok IM e'
    have h3 := h2.kill l
    unfold Oper.wp
    rw [h1]
    have I2 : Inv cx (Am.putA D t sd) [] (a.put (some t) y).tmps w := I.putA htl h3
    have hq : Am.putA D t sd = D.set t sd := by unfold Am.putA; rw [ha]
    rw [hq, ← hd] at I2
    exact hK _ _ _ (er_set D t sd) ⟨_, rfl⟩ I2
end Go.Proofs.Ytalapefcbodhaaa.Am
namespace Go.Proofs.Ytalapefcbodhaaa.Am
set_option linter.unusedVariables false
set_option linter.unusedSimpArgs false
open Go

section
variable {δ β : Type}
def T.isV : T δ → Bool
  | .v _ => true
  | _ => false
def wholeC : Sl δ β → Option (List (T δ))
  | .one u => if u.isOwn = true then some [u] else none
  | .agg ts => if ts.all (fun t => t.isOwn || t.isV) = true then some ts else none
  | _ => none
def plainC : Sl δ β → Option (T δ)
  | .one (.v x) => some (.v x)
  | _ => none
def plainParts (rd : Nat → Option (Sl δ β)) (pl : List (Nat × Nat)) : List (Nat × Operand) → List (T δ) → Option (List (T δ))
  | [], ts => some ts
  | (i, x) :: r, ts =>
    match x with
    | .tmp q =>
      match pl[i]?, (rd q).bind plainC with
      | some (off, size), some t => if 1 = size ∧ off + 1 ≤ ts.length then plainParts rd pl r (spliceAt ts off [t]) else none
      | _, _ => none
    | _ => none
def takeSlot (o : Oper) : Option Nat :=
  match o.op with
  | .buildSlice _ _ parts => match parts.toList with | [(0, .tmp u)] => some u | _ => none
  | .build _ parts => match parts.toList with | (_, .tmp u) :: _ => some u | _ => none
  | _ => none
def valT (M : Mk δ β) (F : Fresh δ β) (tab : Tab) (rd : Nat → Option (Sl δ β)) (o : Oper) : Option (Sl δ β) :=
  match o.op with
  | .buildSlice t len parts =>
    match tab.ti t, parts.toList with
    | some ⟨_, _, _, .slice e⟩, [(0, .tmp u)] =>
      match tab.ti e, (rd u).bind wholeC with
      | some te, some us => if len = 1 ∧ te.size ≠ 0 ∧ te.zero.length = te.size ∧ te.size ≤ 2 ^ 24 ∧ us.length = te.size then some (.one (.s .own (F.row 1) te.size [us])) else none
      | _, _ => none
    | _, _ => none
  | .build t parts =>
    match tab.ti t, tab.pl t, parts.toList with
    | some ti, some pl, (i, .tmp u) :: r =>
      match pl[i]?, (rd u).bind wholeC with
      | some (off, size), some us =>
        if us.length = size ∧ off + us.length ≤ (ti.zero.map (T.inj M.nil)).length then (plainParts rd pl r (spliceAt (ti.zero.map (T.inj M.nil)) off us)).map fun ts => .agg ts else none
      | _, _ => none
    | _, _, _ => none
  | _ => none
theorem plainC_eq {x : Sl δ β} {t : T δ} (h : plainC x = some t) : ∃ y, x = .one (.v y) ∧ t = .v y := by
  unfold plainC at h
  split at h
  · cases h; exact ⟨_, rfl, rfl⟩
  · cases h
theorem plainParts_mono {rd rd' : Nat → Option (Sl δ β)} (hr : ∀ q x, rd q = some x → (plainC x).isSome = true → rd' q = some x) {pl : List (Nat × Nat)} : ∀ (r : List (Nat × Operand)) {ts us : List (T δ)},
    plainParts rd pl r ts = some us → plainParts rd' pl r ts = some us
  | [], ts, us, h => h
  | (i, x) :: r, ts, us, h => by
    simp only [plainParts] at h ⊢
    split at h
    · rename_i q
      split at h
      · rename_i off size t hp hq
        rw [Option.bind_eq_some_iff] at hq
        obtain ⟨y, h1, h2⟩ := hq
        have h3 := hr q y h1 (by rw [h2]; rfl)
        simp only [hp, h3, Option.bind_some, h2]
        split at h
        · rename_i hc
          rw [if_pos hc]
          exact plainParts_mono hr r h
        · cases h
      · cases h
    · cases h
theorem valT_mono {M : Mk δ β} {F : Fresh δ β} {tab : Tab} {rd rd' : Nat → Option (Sl δ β)} (hr : ∀ q x, rd q = some x → (plainC x).isSome = true → rd' q = some x) (hw : ∀ q x, rd q = some x → (wholeC x).isSome = true → rd' q = some x) {o : Oper} {s : Sl δ β}
    (h : valT M F tab rd o = some s) : valT M F tab rd' o = some s := by
  unfold valT at h ⊢
  split at h
  · split at h
    · rename_i hti hp
      split at h
      · rename_i te us hte hu
        rw [Option.bind_eq_some_iff] at hu
        obtain ⟨y, h1, h2⟩ := hu
        have h3 := hw _ y h1 (by rw [h2]; rfl)
        simp only [hti, hp, hte, h3, Option.bind_some, h2]
        exact h
      · cases h
    · cases h
  · split at h
    · rename_i ti pl i u r hti hpl hp
      split at h
      · rename_i off size us hi hu
        rw [Option.bind_eq_some_iff] at hu
        obtain ⟨y, h1, h2⟩ := hu
        have h3 := hw _ y h1 (by rw [h2]; rfl)
        simp only [hti, hpl, hp, hi, h3, Option.bind_some, h2]
        split at h
        · rename_i hc
          rw [if_pos hc]
          rw [Option.map_eq_some_iff] at h ⊢
          obtain ⟨ts, h4, h5⟩ := h
          exact ⟨ts, plainParts_mono hr r h4, h5⟩
        · cases h
      · cases h
    · cases h
  · cases h
theorem giveUp_len' (u : Nat) (D : St δ β) : (giveUp u D).length = D.length := by simp [giveUp, St.dead]
theorem giveUp_plain {D : St δ β} {u q : Nat} {x : Value} (h : D[q]? = some (.one (.v x))) (hne : q ≠ u) : (giveUp u D)[q]? = some (.one (.v x)) := by
  unfold giveUp
  rw [List.getElem?_set_ne (fun e => hne e.symm)]
  simp only [St.dead, List.getElem?_map, h, Option.map_some]
  rfl
theorem plain_cells {M : Mk δ β} {D : St δ β} {q : Nat} {x : Value} (h : D[q]? = some (.one (.v x))) : cellsCopy M D (.tmp q) = some (false, [.v x]) := by
  simp only [cellsCopy, opd, copySl, h]
theorem buildCells_plain {M : Mk δ β} {D : St δ β} {u : Nat} (hu : ∀ x, D[u]? ≠ some (.one (.v x))) {pl : List (Nat × Nat)} : ∀ (r : List (Nat × Operand)) {ts us : List (T δ)}, plainParts (fun q => D[q]?) pl r ts = some us → buildCells M (giveUp u D) pl r ts = some us
  | [], ts, us, h => h
  | (i, x) :: r, ts, us, h => by
    simp only [plainParts] at h
    simp only [buildCells]
    split at h
    · rename_i q
      split at h
      · rename_i off size t hp hq
        rw [Option.bind_eq_some_iff] at hq
        obtain ⟨y, h1, h2⟩ := hq
        obtain ⟨v, rfl, rfl⟩ := plainC_eq h2
        have hne : q ≠ u := fun e => hu v (e ▸ h1)
        rw [hp, plain_cells (giveUp_plain h1 hne)]
        simp only
        split at h
        · rename_i hc
          rw [if_pos (by simpa using hc)]
          exact buildCells_plain hu r h
        · cases h
      · cases h
    · cases h
theorem wholeC_take {M : Mk δ β} {D : St δ β} {u : Nat} {x : Sl δ β} {us : List (T δ)} (h : D[u]? = some x) (hw : wholeC x = some us) : (∃ g, cellsTake M D (.tmp u) = some (g, us, giveUp u D)) ∧ us.all (fun t => t.isOwn || t.flat) = true ∧ ∀ y, D[u]? ≠ some (.one (.v y)) := by
  unfold wholeC at hw
  split at hw
  · rename_i t
    split at hw
    · rename_i ho
      cases hw
      refine ⟨⟨false, ?_⟩, by simp [ho], fun y e => ?_⟩
      · simp only [cellsTake, h]
        rw [if_pos ho]
      · rw [h] at e; cases e; cases ho
    · cases hw
  · rename_i ts
    split at hw
    · rename_i ha
      cases hw
      refine ⟨⟨true, ?_⟩, ?_, fun y e => ?_⟩
      · simp only [cellsTake, h]
        rw [if_pos]
        rw [List.all_eq_true] at ha ⊢
        intro t ht
        have := ha t ht
        cases t with
        | v x => rfl
        | any => rfl
        | s k d z r => cases k <;> first | rfl | (simp [T.isOwn, T.isV] at this)
      · rw [List.all_eq_true] at ha ⊢
        intro t ht
        have := ha t ht
        cases t with
        | v x => rfl
        | any => simp [T.isOwn, T.isV] at this
        | s k d z r => cases k <;> first | rfl | (simp [T.isOwn, T.isV] at this)
      · rw [h] at e; cases e
    · cases hw
  · cases hw
theorem stepG_of_valT {M : Mk δ β} {F : Fresh δ β} {tab : Tab} {D : St δ β} {o : Oper} {t u : Nat} (hd : o.dst = some t) (hu : takeSlot o = some u) (ht : t < D.length) {s : Sl δ β} (h : valT M F tab (fun q => D[q]?) o = some s) :
    stepG M F tab D o true = some (putSl (giveUp u D) (some t) s) := by
  unfold valT at h
  unfold takeSlot at hu
  unfold stepG
  split at h
  · rename_i bt len parts hop
    simp only [hop] at hu ⊢
    split at h
    · rename_i sz by_ ze e u' hti hp
      simp only [hp] at hu
      cases hu
      split at h
      · rename_i te us hte hus
        rw [Option.bind_eq_some_iff] at hus
        obtain ⟨x, h1, h2⟩ := hus
        obtain ⟨⟨g, h3⟩, h4, _⟩ := wholeC_take (M := M) h1 h2
        split at h
        · rename_i hc
          cases h
          rw [if_pos trivial]
          simp only [buildSliceT, hti, hd, hp, hte, h3]
          rw [if_pos ⟨hc.1, by rw [giveUp_len']; exact ht, hc.2.1, hc.2.2.1, hc.2.2.2.1, hc.2.2.2.2, h4⟩]
        · cases h
      · cases h
    · cases h
  · rename_i bt parts hop
    simp only [hop] at hu ⊢
    split at h
    · rename_i ti pl i u' r hti hpl hp
      simp only [hp] at hu
      cases hu
      split at h
      · rename_i off size us hi hus
        rw [Option.bind_eq_some_iff] at hus
        obtain ⟨x, h1, h2⟩ := hus
        obtain ⟨⟨g, h3⟩, h4, h5⟩ := wholeC_take (M := M) h1 h2
        split at h
        · rename_i hc
          rw [Option.map_eq_some_iff] at h
          obtain ⟨ts, h6, rfl⟩ := h
          rw [if_pos trivial]
          refine buildTT_some ?_
          simp only [buildT, hti, hpl, hp, hd, hi, h3]
          rw [if_pos ⟨hc.1, hc.2, by rw [giveUp_len']; exact ht⟩, buildCells_plain h5 r h6]
          rfl
        · cases h
      · cases h
    · cases h
  · cases h
end

theorem er_isV (t : DT) : t.er.isV = t.isV := by
  cases t with
  | v x => rfl
  | any => rfl
  | s k d z r => simp [er_s, T.isV]
theorem er_wholeC (x : DSl) : wholeC x.er = (wholeC x).map erL := by
  cases x with
  | one u =>
    simp only [Sl.er, wholeC, er_isOwn]
    split <;> rfl
  | agg ts =>
    simp only [Sl.er, wholeC]
    have : (erL ts).all (fun t => t.isOwn || t.isV) = ts.all (fun t => t.isOwn || t.isV) := by
      show (ts.map T.er).all _ = _
      rw [List.all_map]
      congr 1
      funext t
      show (t.er.isOwn || t.er.isV) = _
      rw [er_isOwn, er_isV]
    rw [this]
    split <;> rfl
  | _ => rfl
theorem er_plainC (x : DSl) : plainC x.er = (plainC x).map T.er := by
  cases x with
  | one u =>
    cases u with
    | v y => rfl
    | any => rfl
    | s k d z r => simp [Sl.er, er_s, plainC]
  | _ => rfl
theorem er_plainParts (D : DSt) (pl : List (Nat × Nat)) : ∀ (r : List (Nat × Operand)) (ts : List DT), plainParts (fun q => (erD D)[q]?) pl r (erL ts) = (plainParts (fun q => D[q]?) pl r ts).map erL
  | [], ts => rfl
  | (i, x) :: r, ts => by
    simp only [plainParts]
    split
    · rename_i q
      have e : ((erD D)[q]?).bind plainC = ((D[q]?).bind plainC).map T.er := by
        rw [er_get]
        cases D[q]? with
        | none => rfl
        | some y => simp only [Option.map_some, Option.bind_some, er_plainC]
      rw [e]
      cases pl[i]? with
      | none => rfl
      | some os =>
        obtain ⟨off, size⟩ := os
        cases (D[q]?).bind plainC with
        | none => rfl
        | some t =>
          simp only [Option.map_some, List.length_map]
          split
          · have e2 : spliceAt (erL ts) off [t.er] = erL (spliceAt ts off [t]) := (er_splice ts off [t]).symm
            rw [e2]
            exact er_plainParts D pl r _
          · rfl
    · rfl
theorem er_valT (w : World) (tab : Tab) (D : DSt) (o : Oper) : valT mkU frU tab (fun q => (erD D)[q]?) o = (valT mkD (frD w) tab (fun q => D[q]?) o).map Sl.er := by
  have hw : ∀ u, ((erD D)[u]?).bind wholeC = ((D[u]?).bind wholeC).map erL := fun u => by
    rw [er_get]
    cases D[u]? with
    | none => rfl
    | some y => simp only [Option.map_some, Option.bind_some, er_wholeC]
  unfold valT
  split
  · split
    · rename_i sz by_ ze e u hti hp
      simp only [hw]
      cases tab.ti e with
      | none => rfl
      | some te =>
        cases (D[u]?).bind wholeC with
        | none => rfl
        | some us =>
          simp only [Option.map_some, List.length_map]
          split
          · simp only [Option.map_some, Sl.er, er_s, List.map_cons, List.map_nil]
          · rfl
    · rfl
  · split
    · rename_i ti pl i u r hti hpl hp
      simp only [hw]
      cases pl[i]? with
      | none => rfl
      | some os =>
        obtain ⟨off, size⟩ := os
        cases (D[u]?).bind wholeC with
        | none => rfl
        | some us =>
          simp only [Option.map_some, List.length_map]
          split
          · have e1 : spliceAt (ti.zero.map (T.inj mkU.nil)) off (erL us) = erL (spliceAt (ti.zero.map (T.inj mkD.nil)) off us) := by
              rw [er_zeros, er_splice]
            rw [e1, er_plainParts]
            cases plainParts (fun q => D[q]?) pl r (spliceAt (ti.zero.map (T.inj mkD.nil)) off us) with
            | none => rfl
            | some ts => simp only [Option.map_some, Sl.er]
          · rfl
    · rfl
  · rfl

theorem dead_closed {p : Nat → Nat → Bool} {t : DT} (h : ((t.dead p).isOwn || (t.dead p).isV) = true) : t.dead p = t := by
  cases t with
  | v x => rfl
  | any => rfl
  | s k d z r =>
    cases k with
    | own => rfl
    | far => rfl
    | lent h' c' fl =>
      simp only [T.dead] at h ⊢
      split
      · rename_i hp
        rw [if_pos hp] at h
        simp [T.isOwn, T.isV] at h
      · rfl
theorem kill1_closed {D : DSt} {a q : Nat} {x : DSl} (h : (kill1 D a)[q]? = some x) (hx : (wholeC x).isSome = true ∨ (plainC x).isSome = true) : D[q]? = some x := by
  by_cases ha : a < D.length
  · rw [kill1_get D a q ha] at h
    split at h
    · cases h
      rcases hx with hx | hx <;> cases hx
    · rw [Option.map_eq_some_iff] at h
      obtain ⟨y, h1, h2⟩ := h
      rw [h1]
      congr 1
      subst h2
      cases y with
      | any => rfl
      | one u =>
        simp only [Sl.clean, Sl.dead, Sl.gone] at hx ⊢
        rw [dead_closed]
        rcases hx with hx | hx
        · simp only [wholeC] at hx
          split at hx
          · rename_i ho; simp [ho]
          · cases hx
        · unfold plainC at hx
          split at hx
          · rename_i v he
            cases he' : (u.dead (atH a)) <;> simp_all [T.isV]
          · cases hx
      | agg ts =>
        simp only [Sl.clean, Sl.dead, Sl.gone] at hx ⊢
        rcases hx with hx | hx
        · simp only [wholeC] at hx
          split at hx
          · rename_i hall
            rw [List.all_eq_true] at hall
            have := List.map_congr_left (f := T.dead (atH a)) (g := id) (l := ts) fun t ht => dead_closed (hall _ (List.mem_map_of_mem ht))
            rw [List.map_id] at this
            rw [this]
          · cases hx
        · cases hx
      | box b ts => simp only [Sl.clean, Sl.dead, Sl.gone] at hx; rcases hx with hx | hx <;> cases hx
      | al => simp only [Sl.clean, Sl.dead] at hx ⊢; split at hx <;> (rcases hx with hx | hx <;> cases hx)
      | pe => simp only [Sl.clean, Sl.dead] at hx ⊢; split at hx <;> (rcases hx with hx | hx <;> cases hx)
      | pb => simp only [Sl.clean, Sl.dead, Sl.gone] at hx ⊢; split at hx <;> (rcases hx with hx | hx <;> cases hx)
      | clo => simp only [Sl.clean, Sl.dead, Sl.gone] at hx ⊢; split at hx <;> (rcases hx with hx | hx <;> cases hx)
      | im k b ts off =>
        cases k with
        | lent => simp only [Sl.clean, Sl.dead] at hx ⊢; split at hx <;> (rcases hx with hx | hx <;> cases hx)
        | _ => rcases hx with hx | hx <;> cases hx
      | fni f caps => rcases hx with hx | hx <;> cases hx
      | tup rs => simp only [Sl.clean, Sl.dead, Sl.gone] at hx; rcases hx with hx | hx <;> cases hx
  · unfold kill1 at h
    rw [if_neg ha] at h
    exact h
theorem killAll_closed : ∀ (l : List Nat) {D : DSt} {q : Nat} {x : DSl}, (killAll l D)[q]? = some x → (wholeC x).isSome = true ∨ (plainC x).isSome = true → D[q]? = some x
  | [], D, q, x, h, _ => h
  | a :: l, D, q, x, h, hx => by
    simp only [killAll, List.foldl_cons] at h
    exact kill1_closed (killAll_closed l h hx) hx

def T.lentTo {δ : Type} (t : Nat) : T δ → Bool
  | .s (.lent h _ _) _ _ _ => h == t
  | _ => false
def refsB {δ β : Type} (t : Nat) : Sl δ β → Bool
  | .al h _ _ _ _ => h == t
  | .pe h _ _ _ _ => h == t
  | .pb h _ => h == t
  | .clo _ hs => hs.contains t
  | .im (.lent h _ _) _ _ _ => h == t
  | .one u => u.lentTo t
  | .agg ts => ts.any (T.lentTo t)
  | .box _ ts => ts.any (T.lentTo t)
  | .tup rs => rs.any fun r => r.2.any (T.lentTo t)
  | _ => false
theorem refs_B {t : Nat} {s : DSl} (h : refs t s) : refsB t s.er = true := by
  have hT : ∀ (ts : List DT), (∃ u ∈ ts, ∃ c fl d z r, u = .s (.lent t c fl) d z r) → (erL ts).any (T.lentTo t) = true := by
    rintro ts ⟨u, hu, c, fl, d, z, r, rfl⟩
    rw [List.any_eq_true]
    exact ⟨_, List.mem_map_of_mem hu, by simp [er_s, T.lentTo]⟩
  cases s with
  | any => cases h
  | one u => obtain ⟨c, fl, d, z, r, rfl⟩ := h; simp [Sl.er, er_s, refsB, T.lentTo]
  | agg ts => exact hT ts h
  | box b ts => exact hT ts h
  | al h' c st lo len => simp only [refs] at h; subst h; simp [Sl.er, refsB]
  | pe h' c st i off => simp only [refs] at h; subst h; simp [Sl.er, refsB]
  | pb h' off => simp only [refs] at h; subst h; simp [Sl.er, refsB]
  | im k b ts off =>
    cases k with
    | lent h' c fl => simp only [refs] at h; subst h; simp [Sl.er, refsB]
    | _ => cases h
  | fni f caps => cases h
  | clo f hs =>
    have h' : t ∈ hs := h
    simp [Sl.er, refsB, h']
  | tup rs =>
    obtain ⟨r, hr, hu⟩ := h
    simp only [Sl.er, refsB]
    rw [List.any_eq_true]
    exact ⟨_, List.mem_map_of_mem hr, hT r.2 hu⟩

theorem not_refs {t : Nat} {s : DSl} (h : refsB t s.er = false) : ¬ refs t s := fun q => by rw [refs_B q] at h; cases h
theorem giveUp_quiet {D : DSt} {u : Nat} (hD : ∀ s ∈ D, ¬ refs u s) : giveUp u D = D.set u .any := by
  have : (St.dead (atH u) (qH u) D).map (Sl.gone u) = D := by
    simp only [St.dead, List.map_map]
    conv => rhs; rw [← List.map_id D]
    exact List.map_congr_left fun s' hs' => clean_noref (hD s' hs')
  unfold giveUp
  rw [this]
theorem Inv.stepT {P : Program} {tab : Tab} (ok : TabOk P tab) {cx : Cx} {D : DSt} {a : Act} {w : World} (I : Inv cx D [] a.tmps w) {l : List Nat} {o : Oper} {t u : Nat} (hd : o.dst = some t) (ha : D[t]? = some .any) (hu : Am.takeSlot o = some u)
    (hr : ∀ s ∈ erD D, refsB u s = false) {s : Sl Unit Unit} (e : valT mkU frU tab (fun q => (Am.killAll l (erD D))[q]?) o = some s) (hs : refsB t s = false) {K : Act → World → Prop} {Q : Exit → Act → World → Prop}
    (hK : ∀ D' a' w', erD D' = ((erD D).set u .any).set t s → (∃ y, a' = a.put o.dst y) → Inv cx D' [] a'.tmps w' → K a' w') : o.wp P a w K Q := by
  have htl : t < D.length := by
    rcases Nat.lt_or_ge t D.length with g | g
    · exact g
    · rw [List.getElem?_eq_none g] at ha; cases ha
  rw [← er_killAll, er_valT w] at e
  obtain ⟨sd, e1, rfl⟩ := Option.map_eq_some_iff.1 e
  have e2 : valT mkD (frD w) tab (fun q => D[q]?) o = some sd := valT_mono (fun q x h1 h2 => killAll_closed l h1 (.inr h2)) (fun q x h1 h2 => killAll_closed l h1 (.inl h2)) e1
  have e3 := stepG_of_valT hd hu htl e2
  have hnu : ∀ s ∈ D, ¬ refs u s := fun s hs => not_refs (hr s.er (List.mem_map_of_mem hs))
  have hnt : ∀ s ∈ D, ¬ refs t s := fun s' hs' => by
    obtain ⟨i, hi⟩ := List.getElem?_of_mem hs'
    exact I.any_refs ha (I.val i s' hi) (I.kind s' hs')
  rw [giveUp_quiet hnu, putSl_quiet (fun s' hs' => by
    rcases List.mem_or_eq_of_mem_set hs' with h | rfl
    · exact hnt s' h
    · exact fun h => h) (not_refs hs)] at e3
  obtain ⟨nx, w', h1, h2⟩ := step_sound ok I e3
  unfold Oper.wp
  rw [h1]
  cases h2 with
  | value y h => exact hK _ _ _ (by rw [er_set, er_set]; rfl) ⟨_, rfl⟩ h
  | skip hd' h => rw [hd] at hd'; cases hd'

def tko (tk : Nat → Bool) (ops : Array Oper) (j : Nat) : Option Nat := if tk j = true then (ops[j]?).bind fun o => if o.guard.isNone = true then takeSlot o else none else none
def takens (tk : Nat → Bool) (ops : Array Oper) (m : Nat) : List Nat := (List.range m).filterMap (tko tk ops)
def takenBy (tk : Nat → Bool) (ops : Array Oper) (m j : Nat) : List Nat := (List.range m).filterMap fun k => if k = j then none else tko tk ops k
def hideOf (tk : Nat → Bool) (ops : Array Oper) (m : Nat) (anc : List (List Nat)) (j : Nat) : List Nat :=
  (List.range m).filterMap fun i => match (ops[i]?).bind (·.dst) with
    | some t => if ((anc.getD j []).contains i && !((takenBy tk ops m j).contains t)) = true then none else some t
    | none => none
def drawB (tk : Nat → Bool) (ops : Array Oper) (m : Nat) (anc : List (List Nat)) : Bool :=
  decide (m ≤ ops.size) &&
  (List.range ops.size).all (fun j => (aftOf ops j).all fun i => decide (i < j)) &&
  (List.range m).all (fun j => ((ops[j]?).bind (·.dst)).isSome) && decide ((dstsOf ops m).Nodup) &&
  (List.range ops.size).all (fun j => (anc.getD j []).all fun i => (aftOf ops j).contains i || (aftOf ops j).any fun k => (anc.getD k []).contains i) &&
  (List.range ops.size).all (fun j => decide (j < m) || (List.range j).all fun i => (aftOf ops j).contains i || (aftOf ops j).any fun k => (anc.getD k []).contains i) &&
  (List.range m).all (fun k => match tko tk ops k with
    | some u => (List.range m).any (fun i => (anc.getD k []).contains i && decide ((ops[i]?).bind (·.dst) = some u)) && !((takenBy tk ops m k).contains u)
    | none => true)
def evM (tab : Tab) (fns : FuncId → Option Func) (C : Sem1) (tk : Nat → Bool) (ops : Array Oper) (m : Nat) (anc : List (List Nat)) (j : Nat) (U : US) : Option (Sl Unit Unit) :=
  match ops[j]? with
  | some o =>
    match o.dst with
    | some t =>
      (match tko tk ops j with
        | none => guardV ops (killAll (hideOf tk ops m anc j) U) o (stepV tab fns C (killAll (hideOf tk ops m anc j) U) o)
        | some _ => valT mkU frU tab (fun q => (killAll (hideOf tk ops m anc j) U)[q]?) o).bind fun s => if (t :: takens tk ops m).all (fun v => !refsB v s) = true then some s else none
    | none => none
  | none => none
def outM (tk : Nat → Bool) (ops : Array Oper) (j : Nat) (U : US) : US := match tko tk ops j with | none => U | some u => U.set u .any
def stepM (tab : Tab) (fns : FuncId → Option Func) (C : Sem1) (tk : Nat → Bool) (ops : Array Oper) (m : Nat) (anc : List (List Nat)) (U : US) (j : Nat) : Option US :=
  match (ops[j]?).bind (·.dst) with
  | some t =>
    match U[t]? with
    | some .any => (evM tab fns C tk ops m anc j U).map fun s => (outM tk ops j U).set t s
    | _ => none
  | none => none
def runPre (tab : Tab) (fns : FuncId → Option Func) (C : Sem1) (tk : Nat → Bool) (ops : Array Oper) (m : Nat) (anc : List (List Nat)) : Nat → Nat → US → Option US
  | 0, _, U => some U
  | n + 1, j, U => (stepM tab fns C tk ops m anc U j).bind (runPre tab fns C tk ops m anc n (j + 1))
def runD (tab : Tab) (fns : FuncId → Option Func) (C : Sem1) (tk : Nat → Bool) (ops : Array Oper) (m : Nat) (anc : List (List Nat)) (D : US) : Option US :=
  if drawB tk ops m anc && (dstsOf ops m).all (fun t => decide (t < D.length)) && (killAll (dstsOf ops m) D).all (fun s => (takens tk ops m).all fun u => !refsB u s) then
    (runPre tab fns C tk ops m anc m 0 (killAll (dstsOf ops m) D)).bind (runOps tab fns C tk ops (ops.toList.drop m) m) else none
theorem tko_spec {tk : Nat → Bool} {ops : Array Oper} {j u : Nat} {o : Oper} (ho : ops[j]? = some o) (h : tko tk ops j = some u) : takeSlot o = some u ∧ o.guard = none := by
  unfold tko at h
  split at h
  · rw [ho, Option.bind_some] at h
    split at h
    · rename_i hg; exact ⟨h, Option.isNone_iff_eq_none.1 hg⟩
    · cases h
  · cases h
end Go.Proofs.Ytalapefcbodhaaa.Am
namespace Go.Proofs.Ytalapefcbodhaaa.Am
set_option linter.unusedVariables false
set_option linter.unusedSimpArgs false
open Go

theorem Inv.stepM {P : Program} {tab : Tab} (ok : TabOk P tab) {fns : FuncId → Option Func} (hf : FnsOk P fns) {C : Sem1} (hC : CallsOk P C) {cx : Cx} {D : DSt} {a : Act} {w : World} (I : Inv cx D [] a.tmps w)
    {tk : Nat → Bool} {ops : Array Oper} {m : Nat} {anc : List (List Nat)} {j : Nat} {U : US} (hjm : j < m) (hr : ∀ u ∈ takens tk ops m, ∀ s ∈ erD D, refsB u s = false) (e : Am.stepM tab fns C tk ops m anc (erD D) j = some U) {K : Act → World → Prop} {Q : Exit → Act → World → Prop}
    (hK : ∀ D' a' w', erD D' = U → (∃ o y, ops[j]? = some o ∧ a' = a.put o.dst y) → Inv cx D' [] a'.tmps w' → K a' w') : wpOp P ops Q j K a w := by
  unfold Am.stepM at e
  split at e
  case h_2 => cases e
  rename_i t hbd
  rw [Option.bind_eq_some_iff] at hbd
  obtain ⟨o, ho, hd⟩ := hbd
  split at e
  case h_2 => cases e
  rename_i hany
  rw [Option.map_eq_some_iff] at e
  obtain ⟨s, e0, e2⟩ := e
  unfold evM at e0
  rw [ho] at e0
  simp only [hd] at e0
  rw [Option.bind_eq_some_iff] at e0
  obtain ⟨s', e1, e3⟩ := e0
  split at e3
  case isFalse => cases e3
  rename_i hchk
  cases e3
  have ha : D[t]? = some .any := by
    rw [er_get, Option.map_eq_some_iff] at hany
    obtain ⟨s', h1, h2⟩ := hany
    rw [h1]
    cases s' <;> first | rfl | cases h2
  have htl : t < D.length := by
    rcases Nat.lt_or_ge t D.length with g | g
    · exact g
    · rw [List.getElem?_eq_none g] at ha; cases ha
  split at e1
  · rename_i htko
    have e2 : (erD D).set t s = U := by
      have : outM tk ops j (erD D) = erD D := by unfold outM; rw [htko]
      rw [this] at e2; exact e2
    have go : Region.wanted o (yielded ops a.tmps) = true → Am.stepV tab fns C (Am.killAll (hideOf tk ops m anc j) (erD D)) o = some s → wpOp P ops Q j K a w := by
      intro hw h
      unfold wpOp
      rw [ho]
      simp only
      rw [if_pos hw]
      exact .inl (I.stepV ok hf hC hd ha h fun D' a' w' h1 h2 h3 => hK D' a' w' (h1.trans e2) (h2.elim fun y h => ⟨o, y, ho, h⟩) h3)
    unfold guardV at e1
    split at e1
    · rename_i hg
      exact go (by simp [Region.wanted, hg]) e1
    · rename_i g want hg
      split at e1
      case h_2 => cases e1
      rename_i b hb
      have hy : yielded ops a.tmps g = b := by
        rw [Option.bind_eq_some_iff] at hb
        obtain ⟨t', h1, h2⟩ := hb
        rw [← er_killAll, er_yieldAt] at h2
        have := (I.killAll (hideOf tk ops m anc j)).yieldAt h2
        unfold yielded
        rw [h1]
        exact this
      split at e1
      · rename_i hbw
        exact go (by simp [Region.wanted, hg, hy, hbw]) e1
      · rename_i hbw
        cases e1
        unfold wpOp
        rw [ho]
        simp only
        rw [if_neg (by simp [Region.wanted, hg, hy, hbw]), hd]
        have := I.putUndef htl
        have hq : Am.putA D t (.tup []) = D.set t (.tup []) := by unfold Am.putA; rw [ha]
        rw [hq] at this
        exact hK _ _ _ ((er_set D t (.tup [])).trans e2) ⟨o, undef, ho, by rw [hd]⟩ this
  · rename_i u htko
    obtain ⟨hts, hg⟩ := tko_spec ho htko
    have e2 : ((erD D).set u .any).set t s = U := by
      have : outM tk ops j (erD D) = (erD D).set u .any := by unfold outM; rw [htko]
      rw [this] at e2; exact e2
    have hut : u ∈ takens tk ops m := List.mem_filterMap.2 ⟨j, List.mem_range.2 hjm, htko⟩
    have hs : refsB t s = false := by
      have := List.all_eq_true.1 hchk t (by simp)
      simpa using this
    unfold wpOp
    rw [ho]
    simp only
    rw [if_pos (by simp [Region.wanted, hg])]
    exact .inl (I.stepT ok hd ha hts (hr u hut) e1 hs fun D' a' w' h1 h2 h3 => hK D' a' w' (h1.trans e2) (h2.elim fun y h => ⟨o, y, ho, h⟩) h3)

def Listed (l : Array Bool) (i : Nat) : Prop := l.getD i false = true
theorem listed_set {l : Array Bool} {i k : Nat} : Listed (l.setIfInBounds i true) k ↔ (k = i ∧ i < l.size) ∨ Listed l k := by
  unfold Listed
  rw [Array.getD_eq_getD_getElem?, Array.getD_eq_getD_getElem?, Array.getElem?_setIfInBounds]
  by_cases e : i = k
  · subst e
    by_cases h : i < l.size
    · simp [h]
    · simp [h]
  · rw [if_neg e]
    constructor
    · exact fun h => .inr h
    · rintro (⟨h, _⟩ | h)
      · exact absurd h.symm e
      · exact h
structure DrawOk (tk : Nat → Bool) (ops : Array Oper) (m : Nat) (anc : List (List Nat)) : Prop where
  le : m ≤ ops.size
  topo : ∀ j i, i ∈ aftOf ops j → i < j
  dst : ∀ j, j < m → ∃ t, (ops[j]?).bind (·.dst) = some t
  nodup : (dstsOf ops m).Nodup
  seq : ∀ j, m ≤ j → j < ops.size → ∀ i, i < j → i ∈ aftOf ops j ∨ ∃ k ∈ aftOf ops j, i ∈ anc.getD k []
  tk1 : ∀ k, k < m → ∀ u, tko tk ops k = some u → ∃ i, i < m ∧ i ∈ anc.getD k [] ∧ (ops[i]?).bind (·.dst) = some u
  tk2 : ∀ k k' u, k < m → k' < m → tko tk ops k = some u → tko tk ops k' = some u → k = k'
  anc : ∀ j, j < ops.size → ∀ i ∈ anc.getD j [], i ∈ aftOf ops j ∨ ∃ k ∈ aftOf ops j, i ∈ anc.getD k []
theorem drawB_ok {tk : Nat → Bool} {ops : Array Oper} {m : Nat} {anc : List (List Nat)} (h : drawB tk ops m anc = true) : DrawOk tk ops m anc := by
  unfold drawB at h
  rw [Bool.and_eq_true] at h
  obtain ⟨h, h7⟩ := h
  simp only [Bool.and_eq_true, List.all_eq_true, List.mem_range, decide_eq_true_eq, Bool.or_eq_true, List.contains_iff_mem, List.any_eq_true] at h
  obtain ⟨⟨⟨⟨⟨h1, h2⟩, h3⟩, h4⟩, h5⟩, h6⟩ := h
  have hk : ∀ k, k < m → ∀ u, tko tk ops k = some u → ((List.range m).any (fun i => (anc.getD k []).contains i && decide ((ops[i]?).bind (·.dst) = some u)) && !((takenBy tk ops m k).contains u)) = true := fun k hk u hu => by
    have := List.all_eq_true.1 h7 k (List.mem_range.2 hk)
    rw [hu] at this
    exact this
  refine ⟨h1, fun j i hi => ?_, fun j hj => Option.isSome_iff_exists.1 (h3 j hj), h4, fun j hm hj i hi => ?_, fun k hkm u hu => ?_, fun k k' u hkm hkm' hu hu' => ?_, fun j hj i hi => h5 j hj i hi⟩
  · rcases Nat.lt_or_ge j ops.size with g | g
    · exact h2 j g i hi
    · unfold aftOf at hi
      rw [Array.getElem?_eq_none g] at hi
      cases hi
  · rcases h6 j hj with g | g
    · omega
    · exact g i hi
  · have := hk k hkm u hu
    rw [Bool.and_eq_true, List.any_eq_true] at this
    obtain ⟨⟨i, hi, h8⟩, _⟩ := this
    rw [Bool.and_eq_true, List.contains_iff_mem, decide_eq_true_eq] at h8
    exact ⟨i, List.mem_range.1 hi, h8.1, h8.2⟩
  · have := hk k hkm u hu
    rw [Bool.and_eq_true] at this
    have h8 := this.2
    apply Classical.byContradiction
    intro hne
    have : u ∈ takenBy tk ops m k := List.mem_filterMap.2 ⟨k', List.mem_range.2 hkm', by rw [if_neg (fun e => hne e.symm)]; exact hu'⟩
    rw [← List.contains_iff_mem] at this
    rw [this] at h8
    cases h8
theorem ready_iff {ops : Array Oper} {l : Array Bool} {j : Nat} (hl : l.size = ops.size) : j ∈ Region.ready .any ops l ↔ j < ops.size ∧ ¬ Listed l j ∧ ∀ i ∈ aftOf ops j, Listed l i := by
  rw [mem_ready]
  unfold Listed aftOf
  constructor
  · rintro ⟨h1, o, h2, h3⟩
    have hj : j < ops.size := (Array.getElem?_eq_some_iff.1 h2).1
    refine ⟨hj, ?_, ?_⟩
    · rw [Array.getD_eq_getD_getElem?] at h1 ⊢
      rw [Array.getElem?_eq_getElem (hl ▸ hj)] at h1 ⊢
      simp at h1 ⊢
      exact h1
    · rw [h2]
      intro i hi
      simp only [List.mem_map, List.mem_filter] at hi
      obtain ⟨e, ⟨he, hb⟩, rfl⟩ := hi
      exact h3 e (by simpa using he) hb
  · rintro ⟨hj, h1, h2⟩
    rw [Array.getElem?_eq_getElem hj] at h2
    refine ⟨?_, ops[j], Array.getElem?_eq_getElem hj, fun e he hb => h2 e.on ?_⟩
    · rw [Array.getD_eq_getD_getElem?] at h1 ⊢
      rw [Array.getElem?_eq_getElem (hl ▸ hj)] at h1 ⊢
      simp at h1 ⊢
      exact h1
    · simp only [List.mem_map, List.mem_filter]
      exact ⟨e, ⟨by simpa using he, hb⟩, rfl⟩
end Go.Proofs.Ytalapefcbodhaaa.Am
namespace Go.Proofs.Ytalapefcbodhaaa.Am
set_option linter.unusedVariables false
set_option linter.unusedSimpArgs false
open Go

theorem wpAny_tail' {P : Program} {ops : Array Oper} {Q : Exit → Act → World → Prop} (htopo : ∀ j i, i ∈ aftOf ops j → i < j) :
    ∀ (l : List Oper) (j : Nat) (listed : Array Bool) (a : Act) (w : World), listed.size = ops.size → (∀ i, l[i]? = ops[j + i]?) → (∀ i, i < ops.size → (Listed listed i ↔ i < j)) →
      (∀ k, j ≤ k → k < ops.size → ∀ i, i < k → i ∈ aftOf ops k ∨ ∃ k1 ∈ aftOf ops k, i < k1) → wpList P ops Q l a w → wpAny P .any ops Q l.length listed a w := by
  intro l
  induction l with
  | nil =>
    intro j listed a w hs hl hL _ h
    have hj : ops.size ≤ j := by
      have := hl 0
      simp at this
      exact this
    refine ⟨?_, h⟩
    apply List.eq_nil_iff_forall_not_mem.2
    intro i hi
    rw [ready_iff hs] at hi
    exact hi.2.1 ((hL i hi.1).2 (by omega))
  | cons o l ih =>
    intro j listed a w hs hl hL hseq h
    have h0 : ops[j]? = some o := by simpa using (hl 0).symm
    have hj : j < ops.size := (Array.getElem?_eq_some_iff.1 h0).1
    have hready : ∀ i, i ∈ Region.ready .any ops listed ↔ i = j := by
      intro i
      rw [ready_iff hs]
      constructor
      · rintro ⟨h1, h2, h3⟩
        have h4 : ¬ i < j := fun q => h2 ((hL i h1).2 q)
        rcases Nat.lt_or_ge j i with g | g
        · rcases hseq i (by omega) h1 j g with q | ⟨k1, q1, q2⟩
          · exact absurd ((hL j hj).1 (h3 j q)) (Nat.lt_irrefl _)
          · have q3 := htopo i k1 q1
            have := (hL k1 (by omega)).1 (h3 k1 q1)
            omega
        · omega
      · rintro rfl
        exact ⟨hj, fun q => Nat.lt_irrefl _ ((hL i hj).1 q), fun k hk => (hL k (by have := htopo i k hk; omega)).2 (htopo i k hk)⟩
    show _ ∧ _
    refine ⟨fun q => ?_, fun i hi => ?_⟩
    · have := (hready j).2 rfl
      rw [q] at this; cases this
    · rw [hready] at hi
      subst hi
      have key : ∀ a w, wpList P ops Q l a w → wpAny P .any ops Q l.length (listed.setIfInBounds i true) a w := fun a w h => by
        refine ih (i + 1) (listed.setIfInBounds i true) a w (by simp [hs]) (fun k => by have := hl (k + 1); simpa [Nat.add_assoc, Nat.add_comm 1 k] using this) (fun k hk => ?_) (fun k hk => hseq k (by omega)) h
        rw [listed_set, hL k hk]
        constructor
        · rintro (⟨rfl, _⟩ | q) <;> omega
        · intro q
          by_cases e : k = i
          · exact .inl ⟨e, by omega⟩
          · exact .inr (by omega)
      unfold wpOp
      rw [h0]
      simp only
      unfold wpList at h
      split
      · rename_i hw
        rw [if_pos hw] at h
        exact h.imp (Oper.wp_mono key) id
      · rename_i hw
        rw [if_neg hw] at h
        exact key _ _ h

section
variable {tab : Tab} {fns : FuncId → Option Func} {C : Sem1} {tk : Nat → Bool} {ops : Array Oper} {m : Nat} {anc : List (List Nat)}
structure Lex (tk : Nat → Bool) (ops : Array Oper) (m : Nat) (anc : List (List Nat)) (V0 : US) (ts : Nat → Nat) : Prop where
  dst : ∀ j, j < m → ∃ o, ops[j]? = some o ∧ o.dst = some (ts j)
  inj : ∀ i j, i < m → j < m → ts i = ts j → i = j
  any : ∀ j, j < m → V0[ts j]? = some .any
  tk1 : ∀ k, k < m → ∀ u, tko tk ops k = some u → ∃ i, i < m ∧ i ∈ anc.getD k [] ∧ ts i = u
  tk2 : ∀ k k' u, k < m → k' < m → tko tk ops k = some u → tko tk ops k' = some u → k = k'
  lt : ∀ j, j < m → ∀ i ∈ anc.getD j [], i < j
structure Shows (tk : Nat → Bool) (ops : Array Oper) (m : Nat) (V0 : US) (ts : Nat → Nat) (ss : Nat → Sl Unit Unit) (L : Nat → Prop) (U : US) : Prop where
  len : U.length = V0.length
  on : ∀ j, j < m → L j → (∀ k, k < m → L k → tko tk ops k ≠ some (ts j)) → U[ts j]? = some (ss j)
  gone : ∀ k, k < m → L k → ∀ u, tko tk ops k = some u → U[u]? = some .any
  off : ∀ u, (∀ j, j < m → L j → ts j ≠ u) → (∀ k, k < m → L k → tko tk ops k ≠ some u) → U[u]? = V0[u]?
variable {V0 : US} {ts : Nat → Nat} {ss : Nat → Sl Unit Unit} {L L' : Nat → Prop} {U U' : US}
theorem Shows.any (hx : Lex tk ops m anc V0 ts) (h : Shows tk ops m V0 ts ss L U) {j : Nat} (hj : j < m) (hn : ¬ L j) : U[ts j]? = some .any := by
  by_cases e : ∃ k, k < m ∧ L k ∧ tko tk ops k = some (ts j)
  · obtain ⟨k, h1, h2, h3⟩ := e
    exact h.gone k h1 h2 _ h3
  · rw [h.off (ts j) (fun k hk hL e => hn (hx.inj k j hk hj e ▸ hL)) fun k hk hL q => e ⟨k, hk, hL, q⟩]
    exact hx.any j hj
theorem Shows.set (hx : Lex tk ops m anc V0 ts) (h : Shows tk ops m V0 ts ss L U) {j : Nat} (hj : j < m) (hn : ¬ L j) (hcl : ∀ k, k < m → L k → ∀ i ∈ anc.getD k [], i < m → L i) : Shows tk ops m V0 ts ss (fun i => i = j ∨ L i) ((outM tk ops j U).set (ts j) (ss j)) := by
  have hlt : ts j < U.length := by
    have := h.any hx hj hn
    rcases Nat.lt_or_ge (ts j) U.length with g | g
    · exact g
    · rw [List.getElem?_eq_none g] at this; cases this
  have hlo : (outM tk ops j U).length = U.length := by
    unfold outM
    split
    · rfl
    · rw [List.length_set]
  have hget : ∀ v, tko tk ops j ≠ some v → (outM tk ops j U)[v]? = U[v]? := fun v hv => by
    unfold outM
    split
    · rfl
    · rename_i u hu
      rw [List.getElem?_set_ne]
      intro e
      exact hv (e ▸ hu)
  refine ⟨by rw [List.length_set, hlo]; exact h.len, fun k hk hL hnt => ?_, fun k hk hL u hu => ?_, fun u hu hnt => ?_⟩
  · by_cases e : k = j
    · subst e
      rw [List.getElem?_set_self (by rw [hlo]; exact hlt)]
    · rw [List.getElem?_set_ne (fun q => e (hx.inj j k hj hk q).symm), hget _ (hnt j hj (.inl rfl))]
      exact h.on k hk (hL.resolve_left e) fun k' hk' hL' => hnt k' hk' (.inr hL')
  · obtain ⟨i, hi, hia, hts⟩ := hx.tk1 k hk u hu
    have hne : ts j ≠ u := by
      intro q
      have hij : i = j := hx.inj i j hi hj (hts.trans q.symm)
      subst hij
      rcases hL with rfl | hL
      · exact Nat.lt_irrefl _ (hx.lt _ hk _ hia)
      · exact hn (hcl k hk hL i hia hi)
    rw [List.getElem?_set_ne hne]
    by_cases e : tko tk ops j = some u
    · have hul : u < U.length := by
        have := hx.any i hi
        rw [hts] at this
        rcases Nat.lt_or_ge u V0.length with g | g
        · rw [h.len]; exact g
        · rw [List.getElem?_eq_none g] at this; cases this
      unfold outM
      rw [e]
      simp only
      rw [List.getElem?_set_self hul]
    · rw [hget u e]
      rcases hL with rfl | hL
      · exact absurd hu e
      · exact h.gone k hk hL u hu
  · rw [List.getElem?_set_ne (hu j hj (.inl rfl)), hget u (hnt j hj (.inl rfl))]
    exact h.off u (fun k hk hL => hu k hk (.inr hL)) fun k hk hL => hnt k hk (.inr hL)
theorem Shows.hide (hx : Lex tk ops m anc V0 ts) (h : Shows tk ops m V0 ts ss L U) (h' : Shows tk ops m V0 ts ss L' U') {j : Nat} (hj : ¬ L j) (hj' : ¬ L' j) (ha : ∀ i ∈ anc.getD j [], i < m → L i ∧ L' i) :
    killAll (hideOf tk ops m anc j) U = killAll (hideOf tk ops m anc j) U' := by
  refine killAll_congr _ (h.len.trans h'.len.symm) fun u hu => ?_
  by_cases e : ∃ i, i < m ∧ ts i = u
  · obtain ⟨i, hi, rfl⟩ := e
    obtain ⟨o, ho, hd⟩ := hx.dst i hi
    have hin : ((anc.getD j []).contains i && !((takenBy tk ops m j).contains (ts i))) = true := by
      apply Classical.byContradiction
      intro q
      apply hu
      unfold hideOf
      rw [List.mem_filterMap]
      refine ⟨i, List.mem_range.2 hi, ?_⟩
      rw [ho]
      simp only [Option.bind_some, hd]
      rw [if_neg q]
    rw [Bool.and_eq_true, List.contains_iff_mem] at hin
    obtain ⟨hm, hnt⟩ := hin
    have hno : ∀ k, k < m → k ≠ j → tko tk ops k ≠ some (ts i) := fun k hk hkj q => by
      have : ts i ∈ takenBy tk ops m j := List.mem_filterMap.2 ⟨k, List.mem_range.2 hk, by rw [if_neg hkj]; exact q⟩
      rw [← List.contains_iff_mem] at this
      rw [this] at hnt
      cases hnt
    obtain ⟨q1, q2⟩ := ha i hm hi
    rw [h.on i hi q1 fun k hk hL => hno k hk fun e => hj (e ▸ hL), h'.on i hi q2 fun k hk hL => hno k hk fun e => hj' (e ▸ hL)]
  · have e' : ∀ i, i < m → ts i ≠ u := fun i hi q => e ⟨i, hi, q⟩
    have e2 : ∀ k, k < m → tko tk ops k ≠ some u := fun k hk q => by
      obtain ⟨i, hi, _, hts⟩ := hx.tk1 k hk u q
      exact e' i hi hts
    rw [h.off u (fun i hi _ => e' i hi) fun k hk _ => e2 k hk, h'.off u (fun i hi _ => e' i hi) fun k hk _ => e2 k hk]
theorem Shows.ext (hx : Lex tk ops m anc V0 ts) (h : Shows tk ops m V0 ts ss L U) (h' : Shows tk ops m V0 ts ss L' U') (hL : ∀ i, i < m → L i) (hL' : ∀ i, i < m → L' i) : U = U' := by
  apply List.ext_getElem?
  intro u
  by_cases e2 : ∃ k, k < m ∧ tko tk ops k = some u
  · obtain ⟨k, hk, hu⟩ := e2
    rw [h.gone k hk (hL k hk) u hu, h'.gone k hk (hL' k hk) u hu]
  · have e2' : ∀ k, k < m → tko tk ops k ≠ some u := fun k hk q => e2 ⟨k, hk, q⟩
    by_cases e : ∃ i, i < m ∧ ts i = u
    · obtain ⟨i, hi, rfl⟩ := e
      rw [h.on i hi (hL i hi) fun k hk _ => e2' k hk, h'.on i hi (hL' i hi) fun k hk _ => e2' k hk]
    · have e' : ∀ i, i < m → ts i ≠ u := fun i hi q => e ⟨i, hi, q⟩
      rw [h.off u (fun i hi _ => e' i hi) fun k hk _ => e2' k hk, h'.off u (fun i hi _ => e' i hi) fun k hk _ => e2' k hk]
theorem Shows.nr (hx : Lex tk ops m anc V0 ts) (h : Shows tk ops m V0 ts ss L U) (h0 : ∀ u ∈ takens tk ops m, ∀ s ∈ V0, refsB u s = false) (hs : ∀ i, i < m → ∀ u ∈ takens tk ops m, refsB u (ss i) = false) :
    ∀ u ∈ takens tk ops m, ∀ s ∈ U, refsB u s = false := by
  intro u hu s hsU
  obtain ⟨v, hv⟩ := List.getElem?_of_mem hsU
  by_cases e2 : ∃ k, k < m ∧ L k ∧ tko tk ops k = some v
  · obtain ⟨k, hk, hL, q⟩ := e2
    rw [h.gone k hk hL v q] at hv
    cases hv; rfl
  · have e2' : ∀ k, k < m → L k → tko tk ops k ≠ some v := fun k hk hL q => e2 ⟨k, hk, hL, q⟩
    by_cases e : ∃ i, i < m ∧ L i ∧ ts i = v
    · obtain ⟨i, hi, hL, rfl⟩ := e
      rw [h.on i hi hL e2'] at hv
      cases hv
      exact hs i hi u hu
    · rw [h.off v (fun i hi hL q => e ⟨i, hi, hL, q⟩) e2'] at hv
      exact h0 u hu s (List.mem_of_getElem? hv)

theorem anc_lt' (hD : DrawOk tk ops m anc) : ∀ j, j < ops.size → ∀ i ∈ anc.getD j [], i < j := by
  intro j
  induction j using Nat.strongRecOn with
  | ind j ih =>
    intro hj i hi
    rcases hD.anc j hj i hi with g | ⟨k, g1, g2⟩
    · exact hD.topo j i g
    · have := hD.topo j k g1
      have := ih k this (by omega) i g2
      omega
theorem anc_lt (hD : DrawOk tk ops m anc) : ∀ j, j < m → ∀ i ∈ anc.getD j [], i < j := fun j hj => anc_lt' hD j (by have := hD.le; omega)
theorem anc_listed (hD : DrawOk tk ops m anc) {L : Nat → Prop} (hc : ∀ k, L k → ∀ i ∈ aftOf ops k, L i) : ∀ j, j < ops.size → (∀ i ∈ aftOf ops j, L i) → ∀ i ∈ anc.getD j [], L i := by
  intro j
  induction j using Nat.strongRecOn with
  | ind j ih =>
    intro hj ha i hi
    rcases hD.anc j hj i hi with g | ⟨k, g1, g2⟩
    · exact ha i g
    · have hk := hD.topo j k g1
      exact ih k hk (by omega) (hc k (ha k g1)) i g2

theorem Shows.congr {ss' : Nat → Sl Unit Unit} (h : Shows tk ops m V0 ts ss L U) (e : ∀ i, i < m → L i → ss' i = ss i) : Shows tk ops m V0 ts ss' L U :=
  ⟨h.len, fun i hi hL hn => by rw [e i hi hL]; exact h.on i hi hL hn, h.gone, h.off⟩
theorem Shows.imp (h : Shows tk ops m V0 ts ss L U) (e : ∀ i, i < m → (L i ↔ L' i)) : Shows tk ops m V0 ts ss L' U :=
  ⟨h.len, fun i hi hL hn => h.on i hi ((e i hi).2 hL) fun k hk hLk => hn k hk ((e k hk).1 hLk), fun k hk hL => h.gone k hk ((e k hk).2 hL), fun u hu hn => h.off u (fun i hi hL => hu i hi ((e i hi).1 hL)) fun k hk hL => hn k hk ((e k hk).1 hL)⟩
theorem lex_of_run : ∀ (n j : Nat) {ss : Nat → Sl Unit Unit} {V U : US}, Lex tk ops m anc V0 ts → j + n = m → Shows tk ops m V0 ts ss (fun i => i < j) V →
    runPre tab fns C tk ops m anc n j V = some U → ∃ ss', (∀ i, i < j → ss' i = ss i) ∧ Shows tk ops m V0 ts ss' (fun i => i < m) U ∧ ∀ i, j ≤ i → i < m → ∃ Vi, Shows tk ops m V0 ts ss' (fun k => k < i) Vi ∧ evM tab fns C tk ops m anc i Vi = some (ss' i)
  | 0, j, ss, V, U, hx, hj, hV, e => by
    cases e
    have : j = m := by omega
    subst this
    exact ⟨ss, fun i _ => rfl, hV, fun i h1 h2 => by omega⟩
  | n + 1, j, ss, V, U, hx, hj, hV, e => by
    have hjm : j < m := by omega
    simp only [runPre, Option.bind_eq_some_iff] at e
    obtain ⟨V1, e1, e2⟩ := e
    obtain ⟨o, ho, hd⟩ := hx.dst j hjm
    unfold stepM at e1
    rw [ho, Option.bind_some, hd] at e1
    simp only at e1
    rw [hV.any hx hjm (Nat.lt_irrefl j)] at e1
    simp only [Option.map_eq_some_iff] at e1
    obtain ⟨s, e3, rfl⟩ := e1
    let ss1 : Nat → Sl Unit Unit := fun i => if i = j then s else ss i
    have e5 : ss1 j = s := by simp [ss1]
    have e6 : ∀ i, i < j → ss1 i = ss i := fun i hi => by
      have : i ≠ j := by omega
      simp [ss1, this]
    have hV' : Shows tk ops m V0 ts ss1 (fun i => i < j) V := hV.congr fun i _ hL => e6 i hL
    have hset := hV'.set hx hjm (Nat.lt_irrefl j) (fun k hk hL i hi _ => Nat.lt_trans (hx.lt k hk i hi) hL)
    rw [e5] at hset
    obtain ⟨ss', h1, h2, h3⟩ := lex_of_run n (j + 1) (ss := ss1) (V := (outM tk ops j V).set (ts j) s) hx (by omega) (hset.imp fun i _ => by constructor <;> intro q <;> omega) e2
    refine ⟨ss', fun i hi => (h1 i (by omega)).trans (e6 i hi), h2, fun i hi hm => ?_⟩
    by_cases e : i = j
    · subst e
      refine ⟨V, hV'.congr fun k _ hL => h1 k (by omega), ?_⟩
      rw [h1 i (by omega), e5]
      exact e3
    · exact h3 i (by omega) hm
theorem evM_congr {j : Nat} (h : killAll (hideOf tk ops m anc j) U = killAll (hideOf tk ops m anc j) U') : evM tab fns C tk ops m anc j U = evM tab fns C tk ops m anc j U' := by
  unfold evM
  rw [h]
theorem stepM_of (hx : Lex tk ops m anc V0 ts) (hv : ∀ i, i < m → ∃ Vi, Shows tk ops m V0 ts ss (fun k => k < i) Vi ∧ evM tab fns C tk ops m anc i Vi = some (ss i))
    (h : Shows tk ops m V0 ts ss L U) {j : Nat} (hj : j < m) (hn : ¬ L j) (ha : ∀ k ∈ anc.getD j [], L k) : stepM tab fns C tk ops m anc U j = some ((outM tk ops j U).set (ts j) (ss j)) := by
  obtain ⟨o, ho, hd⟩ := hx.dst j hj
  obtain ⟨Vi, h1, h2⟩ := hv j hj
  unfold stepM
  rw [ho, Option.bind_some, hd]
  simp only
  rw [h.any hx hj hn]
  simp only
  rw [evM_congr (h.hide hx h1 hn (Nat.lt_irrefl j) (fun i hi _ => ⟨ha i hi, hx.lt j hj i hi⟩)), h2]
  rfl
theorem evM_refs {j : Nat} {s : Sl Unit Unit} (h : evM tab fns C tk ops m anc j U = some s) : ∀ u ∈ takens tk ops m, refsB u s = false := by
  unfold evM at h
  split at h
  case h_2 => cases h
  split at h
  case h_2 => cases h
  rename_i o ho t hd
  rw [Option.bind_eq_some_iff] at h
  obtain ⟨s', _, h2⟩ := h
  split at h2
  case isFalse => cases h2
  rename_i hc
  cases h2
  intro u hu
  have := List.all_eq_true.1 hc u (List.mem_cons_of_mem _ hu)
  simpa using this
end

theorem erase_rem {l : Array Bool} {rem : List Nat} {n j : Nat} (hs : l.size = n) (hnd : rem.Nodup) (hr : ∀ i, i ∈ rem ↔ i < n ∧ ¬ Listed l i) (hj : j ∈ rem) :
    (rem.erase j).Nodup ∧ (∀ i, i ∈ rem.erase j ↔ i < n ∧ ¬ Listed (l.setIfInBounds j true) i) ∧ (rem.erase j).length + 1 = rem.length := by
  refine ⟨hnd.erase j, fun i => ?_, ?_⟩
  · rw [hnd.mem_erase_iff, hr i, listed_set]
    have := (hr j).1 hj
    constructor
    · rintro ⟨h1, h2, h3⟩
      exact ⟨h2, fun q => q.elim (fun g => h1 g.1) h3⟩
    · rintro ⟨h1, h2⟩
      exact ⟨fun e => h2 (.inl ⟨e, by omega⟩), h1, fun q => h2 (.inr q)⟩
  · have := List.length_erase_of_mem hj
    have := List.length_pos_of_mem hj
    omega

theorem wpAny_pre {P : Program} {tab : Tab} (ok : TabOk P tab) {fns : FuncId → Option Func} (hf : FnsOk P fns) {C : Sem1} (hC : CallsOk P C) {cx : Cx} {ops : Array Oper} {m : Nat} {anc : List (List Nat)} {Q : Exit → Act → World → Prop}
    {tk : Nat → Bool} (hD : DrawOk tk ops m anc) {V0 : US} {ts : Nat → Nat} {ss : Nat → Sl Unit Unit} (hx : Lex tk ops m anc V0 ts) (hv : ∀ i, i < m → ∃ Vi, Shows tk ops m V0 ts ss (fun k => k < i) Vi ∧ evM tab fns C tk ops m anc i Vi = some (ss i))
    (h0 : ∀ u ∈ takens tk ops m, ∀ s ∈ V0, refsB u s = false) {Vm : US} (hVm : Shows tk ops m V0 ts ss (fun i => i < m) Vm) {T : Act → Prop} (hT : ∀ o ∈ ops.toList, ∀ a y, T a → T (a.put o.dst y)) (hQ : ∀ D a w, Inv cx D [] a.tmps w → T a → erD D = Vm → wpList P ops Q (ops.toList.drop m) a w) :
    ∀ (n : Nat) (rem : List Nat) (listed : Array Bool) (D : DSt) (a : Act) (w : World), rem.length = n → listed.size = ops.size → rem.Nodup → (∀ i, i ∈ rem ↔ i < ops.size ∧ ¬ Listed listed i) →
      (∀ i, m ≤ i → i < ops.size → ¬ Listed listed i) → (∀ k, Listed listed k → ∀ i ∈ aftOf ops k, Listed listed i) → Inv cx D [] a.tmps w → T a → Shows tk ops m V0 ts ss (Listed listed) (erD D) → wpAny P .any ops Q n listed a w := by
  intro n
  have tail : ∀ (rem : List Nat) (listed : Array Bool) (D : DSt) (a : Act) (w : World), listed.size = ops.size → rem.Nodup → (∀ i, i ∈ rem ↔ i < ops.size ∧ ¬ Listed listed i) →
      (∀ i, m ≤ i → i < ops.size → ¬ Listed listed i) → (∀ i, i < m → Listed listed i) → Inv cx D [] a.tmps w → T a → Shows tk ops m V0 ts ss (Listed listed) (erD D) → wpAny P .any ops Q rem.length listed a w := by
    intro rem listed D a w hs hnd hr hge hall I hd hS
    have hlen : (ops.toList.drop m).length = rem.length := by
      have h1 : rem.Perm ((List.range ops.size).drop m) := by
        refine (List.perm_ext_iff_of_nodup hnd (List.nodup_range.sublist (List.drop_sublist _ _))).2 fun i => ?_
        rw [hr i, List.mem_iff_getElem?]
        constructor
        · rintro ⟨q1, q2⟩
          have : m ≤ i := by
            rcases Nat.lt_or_ge i m with g | g
            · exact absurd (hall i g) q2
            · exact g
          exact ⟨i - m, by rw [List.getElem?_drop, List.getElem?_range (by omega)]; congr 1; omega⟩
        · rintro ⟨k, hk⟩
          rw [List.getElem?_drop] at hk
          have hlt : m + k < ops.size := by
            rcases Nat.lt_or_ge (m + k) ops.size with g | g
            · exact g
            · rw [List.getElem?_eq_none (by simpa using g)] at hk; cases hk
          rw [List.getElem?_range hlt] at hk
          cases hk
          exact ⟨hlt, hge _ (by omega) hlt⟩
      have := h1.length_eq
      simp at this ⊢
      omega
    rw [← hlen]
    have hE : erD D = Vm := hS.ext hx hVm hall (fun i hi => hi)
    refine wpAny_tail' (hD.topo) (ops.toList.drop m) m listed a w hs (fun i => by rw [List.getElem?_drop]; simp) (fun i hi => ?_) (fun k h1 h2 i hi => (hD.seq k h1 h2 i hi).imp id fun ⟨k1, q1, q2⟩ => ⟨k1, q1, anc_lt' hD k1 (by have := hD.topo k k1 q1; omega) i q2⟩) (hQ D a w I hd hE)
    constructor
    · intro q
      rcases Nat.lt_or_ge i m with g | g
      · exact g
      · exact absurd q (hge i g hi)
    · exact hall i
  induction n with
  | zero =>
    intro rem listed D a w hn hs hnd hr hge hc I hd hS
    have he : rem = [] := List.length_eq_zero_iff.1 hn
    have := tail rem listed D a w hs hnd hr hge (fun i hi => by
      by_cases q : Listed listed i
      · exact q
      · have := (hr i).2 ⟨by have := hD.le; omega, q⟩
        rw [he] at this; cases this) I hd hS
    rw [he] at this
    exact this
  | succ n ih =>
    intro rem listed D a w hn hs hnd hr hge hc I hd hS
    by_cases hall : ∀ i, i < m → Listed listed i
    · have := tail rem listed D a w hs hnd hr hge hall I hd hS
      rw [hn] at this
      exact this
    · have hsome : ∃ j, j < m ∧ ¬ Listed listed j ∧ ∀ i, i < j → Listed listed i := by
        have hex : ∃ j, j < m ∧ ¬ Listed listed j := by
          apply Classical.byContradiction
          intro q
          exact hall fun i hi => Classical.byContradiction fun q' => q ⟨i, hi, q'⟩
        obtain ⟨j, h1, h2⟩ := hex
        induction j using Nat.strongRecOn with
        | ind j ihj =>
          by_cases q : ∀ i, i < j → Listed listed i
          · exact ⟨j, h1, h2, q⟩
          · have : ∃ i, i < j ∧ ¬ Listed listed i := Classical.byContradiction fun q' => q fun i hi => Classical.byContradiction fun q'' => q' ⟨i, hi, q''⟩
            obtain ⟨i, hi, hni⟩ := this
            exact ihj i hi (by omega) hni
      obtain ⟨j0, h1, h2, h3⟩ := hsome
      show _ ∧ _
      refine ⟨fun q => ?_, fun j hj => ?_⟩
      · have : j0 ∈ Region.ready .any ops listed := (ready_iff hs).2 ⟨by have := hD.le; omega, h2, fun i hi => h3 i (hD.topo j0 i hi)⟩
        rw [q] at this; cases this
      · obtain ⟨r1, r2, r3⟩ := (ready_iff hs).1 hj
        have hjm : j < m := by
          rcases Nat.lt_or_ge j m with g | g
          · exact g
          · rcases hD.seq j g r1 j0 (by omega) with q | ⟨k1, q1, q2⟩
            · exact absurd (r3 j0 q) h2
            · exact absurd (anc_listed hD (fun k hk i hi => hc k hk i hi) k1 (by have := hD.topo j k1 q1; omega) (fun i hi => hc k1 (r3 k1 q1) i hi) j0 q2) h2
        have hanc : ∀ k ∈ anc.getD j [], Listed listed k := anc_listed hD (fun k hk i hi => hc k hk i hi) j r1 r3
        have hst := stepM_of hx hv hS hjm r2 hanc
        have hnr := hS.nr hx h0 (fun i hi => by obtain ⟨Vi, _, q⟩ := hv i hi; exact evM_refs q)
        refine I.stepM ok hf hC hjm hnr hst fun D' a' w' e1 e2 e3 => ?_
        have hjr : j ∈ rem := (hr j).2 ⟨r1, r2⟩
        obtain ⟨k1, k2, k3⟩ := erase_rem hs hnd hr hjr
        refine ih (rem.erase j) (listed.setIfInBounds j true) D' a' w' (by omega) (by simp [hs]) k1 k2 (fun i h4 h5 q => ?_) (fun k hk i hi => ?_) e3 (by
          obtain ⟨o, y, q1, rfl⟩ := e2
          exact hT o (List.mem_of_getElem? (by simpa using q1)) a y hd) ?_
        · rw [listed_set] at q
          rcases q with ⟨q, _⟩ | q
          · omega
          · exact hge i h4 h5 q
        · rw [listed_set] at hk ⊢
          rcases hk with ⟨rfl, _⟩ | hk
          · exact .inr (r3 i hi)
          · exact .inr (hc k hk i hi)
        · rw [e1]
          refine (hS.set hx hjm r2 (fun k hk hL i hi _ => anc_listed hD (fun k hk i hi => hc k hk i hi) k (by have := hD.le; omega) (fun i hi => hc k hL i hi) i hi)).imp fun i _ => ?_
          rw [listed_set]
          constructor
          · rintro (q | q)
            · exact .inl ⟨q, by omega⟩
            · exact .inr q
          · rintro (⟨q, _⟩ | q)
            · exact .inl q
            · exact .inr q

theorem not_listed {n i : Nat} : ¬ Listed (Array.replicate n false) i := by
  intro q
  unfold Listed at q
  rw [Array.getD_eq_getD_getElem?, Array.getElem?_replicate] at q
  split at q <;> cases q
theorem filterMap_map {α β : Type} {f : α → Option β} {g : α → β} : ∀ {l : List α}, (∀ i ∈ l, f i = some (g i)) → l.filterMap f = l.map g
  | [], _ => rfl
  | a :: l, h => by
    rw [List.filterMap_cons, h a (by simp), List.map_cons, filterMap_map fun i hi => h i (by simp [hi])]
theorem Inv.runD {P : Program} {tab : Tab} (ok : TabOk P tab) (hm : P.follows .mixedOrders = true) {fns : FuncId → Option Func} (hf : FnsOk P fns) {C : Sem1} (hC : CallsOk P C) {tk : Nat → Bool} {ops : Array Oper} {m : Nat} {anc : List (List Nat)}
    {Q : Exit → Act → World → Prop} {cx : Cx} {U : US} {T : Act → Prop} (hT : ∀ o ∈ ops.toList, ∀ a y, T a → T (a.put o.dst y)) (hQ : ∀ D' a' w', erD D' = U → T a' → Inv cx D' [] a'.tmps w' → Q .normal a' w') {id : Nat} {D : DSt} {a : Act} {w : World} (I : Inv cx D [] a.tmps w) (hd : T a)
    (e : Am.runD tab fns C tk ops m anc (erD D) = some U) : (Code.region id ops true).wp P Q a w := by
  unfold Am.runD at e
  split at e
  case isFalse => cases e
  rename_i hB
  rw [Bool.and_eq_true, Bool.and_eq_true] at hB
  obtain ⟨⟨hB, hlen⟩, hV0⟩ := hB
  have hD := drawB_ok hB
  rw [Option.bind_eq_some_iff] at e
  obtain ⟨Vm, e1, e2⟩ := e
  rw [← er_killAll] at e1 hV0
  have I0 := (I.drewn).killAll (dstsOf ops m)
  generalize hD0 : Am.killAll (dstsOf ops m) D = D0 at e1 I0 hV0
  have hts : ∃ ts : Nat → Nat, ∀ j, j < m → (ops[j]?).bind (·.dst) = some (ts j) := by
    refine ⟨fun j => ((ops[j]?).bind (·.dst)).getD 0, fun j hj => ?_⟩
    obtain ⟨t, ht⟩ := hD.dst j hj
    simp [ht]
  obtain ⟨ts, hts⟩ := hts
  have hget : ∀ j, j < m → ∃ o, ops[j]? = some o ∧ o.dst = some (ts j) := fun j hj => by
    have := hts j hj
    rw [Option.bind_eq_some_iff] at this
    exact this
  have hinj : ∀ i j, i < m → j < m → ts i = ts j → i = j := by
    have hdst : dstsOf ops m = (List.range m).map ts := by
      unfold dstsOf
      exact filterMap_map fun i hi => hts i (List.mem_range.1 hi)
    have hnd := hD.nodup
    rw [hdst] at hnd
    intro i j hi hj h
    have := (List.pairwise_map.1 hnd)
    rcases Nat.lt_trichotomy i j with g | g | g
    · exact absurd h (List.pairwise_iff_getElem.1 this i j (by simpa using hi) (by simpa using hj) g |> fun q => by simpa using q)
    · exact g
    · exact absurd h.symm (List.pairwise_iff_getElem.1 this j i (by simpa using hj) (by simpa using hi) g |> fun q => by simpa using q)
  have hmem : ∀ j, j < m → ts j ∈ dstsOf ops m := fun j hj => List.mem_filterMap.2 ⟨j, List.mem_range.2 hj, hts j hj⟩
  have hx : Lex tk ops m anc (erD D0) ts := ⟨hget, hinj, fun j hj => by
    rw [← hD0, er_killAll]
    refine killAll_any _ ?_ (.inl (hmem j hj))
    simpa using List.all_eq_true.1 hlen _ (hmem j hj), fun k hk u hu => by
      obtain ⟨i, hi, hia, hd'⟩ := hD.tk1 k hk u hu
      rw [hts i hi] at hd'
      exact ⟨i, hi, hia, by cases hd'; rfl⟩, hD.tk2, anc_lt hD⟩
  have h0 : Shows tk ops m (erD D0) ts (fun _ => .any) (fun i => i < 0) (erD D0) := ⟨rfl, fun j _ q => by omega, fun j _ q => by omega, fun u _ _ => rfl⟩
  obtain ⟨ss, _, k2, k3⟩ := lex_of_run m 0 hx (by omega) h0 e1
  have hnr0 : ∀ u ∈ takens tk ops m, ∀ s ∈ erD D0, refsB u s = false := fun u hu s hs => by
    have := List.all_eq_true.1 (List.all_eq_true.1 hV0 s hs) u hu
    simpa using this
  refine wp_region_any hm ?_
  refine wpAny_pre ok hf hC hD hx (fun i hi => k3 i (Nat.zero_le i) hi) hnr0 k2 (T := T) hT (fun D' a' w' q1 q2 q3 => ?_) ops.size (List.range ops.size) _ D0 a _ (by simp) (by simp) List.nodup_range (fun i => ?_) (fun i h1 h2 q => ?_) (fun k hk => ?_) I0 hd ?_
  · exact Inv.runOps (tk := tk) ok hf hC hQ _ m (fun o ho => hT o (List.mem_of_mem_drop ho)) q1 q2 (by rw [q3]; exact e2)
  · rw [List.mem_range]
    constructor
    · intro q
      exact ⟨q, not_listed⟩
    · exact fun q => q.1
  · exact not_listed q
  · exact absurd hk not_listed
  · exact ⟨rfl, fun j hj q => absurd q not_listed, fun k hk q => absurd q not_listed, fun u _ _ => rfl⟩
end Go.Proofs.Ytalapefcbodhaaa.Am
namespace Go.Proofs.Ytalapefcbodhaaa.Am
set_option linter.unusedVariables false
set_option linter.unusedSimpArgs false
open Go

section
variable {δ β : Type}
def forgetOne (l : List Nat) (D : St δ β) (t : Nat) : St δ β :=
  if l.contains t then D else match D[t]? with | some .any => D | some _ => putSl D (some t) .any | none => D
def forget (l : List Nat) (D : St δ β) : St δ β := (List.range D.length).foldl (forgetOne l) D
end
theorem er_forgetOne (l : List Nat) (D : DSt) (t : Nat) : erD (forgetOne l D t) = forgetOne l (erD D) t := by
  unfold forgetOne
  rw [er_get]
  split
  · rfl
  · cases D[t]? with
    | none => rfl
    | some s => cases s <;> first | rfl | exact er_putSl D (some t) .any
theorem er_foldl (l : List Nat) : ∀ (ts : List Nat) (D : DSt), erD (ts.foldl (forgetOne l) D) = ts.foldl (forgetOne l) (erD D)
  | [], D => rfl
  | t :: ts, D => by simp only [List.foldl_cons]; rw [er_foldl l ts, er_forgetOne]
theorem er_forget (l : List Nat) (D : DSt) : erD (forget l D) = forget l (erD D) := by
  unfold forget; rw [er_foldl, er_len]
theorem Inv.forgetOne {cx : Cx} {D : DSt} {tm : Array Value} {w : World} (I : Inv cx D [] tm w) (l : List Nat) (t : Nat) : Inv cx (forgetOne l D t) [] tm w := by
  unfold Am.forgetOne
  split
  · exact I
  · split
    · exact I
    · rename_i s h
      refine I.lose ?_
      rcases Nat.lt_or_ge t D.length with g | g
      · exact g
      · rw [List.getElem?_eq_none g] at h; cases h
    · exact I
theorem Inv.forgetL {cx : Cx} {tm : Array Value} {w : World} (l : List Nat) : ∀ (ts : List Nat) {D : DSt}, Inv cx D [] tm w → Inv cx (ts.foldl (Am.forgetOne l) D) [] tm w
  | [], D, I => I
  | t :: ts, D, I => by simp only [List.foldl_cons]; exact Inv.forgetL l ts (I.forgetOne l t)
theorem Inv.forget {cx : Cx} {D : DSt} {tm : Array Value} {w : World} (I : Inv cx D [] tm w) (l : List Nat) : Inv cx (forget l D) [] tm w := Inv.forgetL l _ I

structure Hint where
  take : Nat → Nat → Bool := fun _ _ => false
  keep : Nat → Option (List Nat) := fun _ => none
  head : Nat → Option (List Nat) := fun _ => none
  tail : Nat → Exit → Option (List Nat) := fun _ _ => none
  draw : Nat → Option (Nat × List (List Nat)) := fun _ => none

def nextK {R : Type} (g : US → Option R) (K : Exit → US → Option R) (e : Exit) (D : US) : Option R :=
  match e with | .normal => g D | e => K e D
def iterK {R : Type} (body : US → (Exit → US → Option R) → Option R) : Nat → US → (Exit → US → Option R) → Option R
  | 0, _, _ => none
  | m + 1, D, K => body D (nextK (fun D' => iterK body m D' K) K)
def headOf : Code → Option Nat
  | .region id _ _ => some id
  | .seq x y => match headOf x with | some i => some i | none => headOf y
  | .block _ c => headOf c
  | _ => none
def atHead {δ β : Type} (h : Hint) (c : Code) (D : St δ β) : St δ β :=
  match (headOf c).bind h.head with | some l => forget l D | none => D
theorem er_atHead (h : Hint) (c : Code) (D : DSt) : erD (atHead h c D) = atHead h c (erD D) := by
  unfold atHead
  split
  · exact er_forget _ D
  · rfl
theorem Inv.atHead {cx : Cx} {D : DSt} {tm : Array Value} {w : World} (I : Inv cx D [] tm w) (h : Hint) (c : Code) : Inv cx (atHead h c D) [] tm w := by
  unfold Am.atHead
  split
  · exact I.forget _
  · exact I
def atTail {δ β : Type} (h : Hint) (c : Code) (e : Exit) (D : St δ β) : St δ β :=
  match (headOf c).bind (h.tail · e) with | some l => forget l D | none => D
theorem er_atTail (h : Hint) (c : Code) (e : Exit) (D : DSt) : erD (atTail h c e D) = atTail h c e (erD D) := by
  unfold atTail
  split
  · exact er_forget _ D
  · rfl
theorem Inv.atTail {cx : Cx} {D : DSt} {tm : Array Value} {w : World} (I : Inv cx D [] tm w) (h : Hint) (c : Code) (e : Exit) : Inv cx (atTail h c e D) [] tm w := by
  unfold Am.atTail
  split
  · exact I.forget _
  · exact I
def canon {δ β : Type} (h : Hint) (c : Code) (e : Exit) (D : St δ β) : St δ β :=
  match e with | .normal => atHead h c D | e => atTail h c e D
theorem er_canon (h : Hint) (c : Code) (e : Exit) (D : DSt) : erD (canon h c e D) = canon h c e (erD D) := by
  unfold canon
  split
  · exact er_atHead h c D
  · exact er_atTail h c _ D
theorem Inv.canon {cx : Cx} {D : DSt} {tm : Array Value} {w : World} (I : Inv cx D [] tm w) (h : Hint) (c : Code) (e : Exit) : Inv cx (canon h c e D) [] tm w := by
  unfold Am.canon
  split
  · exact I.atHead h c
  · exact I.atTail h c _
def nilLast (ops : List Oper) : Option (List Oper × TypeId × Operand × Nat × Bool) :=
  match ops.getLast? with
  | some ⟨some d, .binOp op t x (.const (.slice none 0 0)) _, _, _, _, none⟩ => (match op with | .eql => some (ops.dropLast, t, x, d, false) | .neq => some (ops.dropLast, t, x, d, true) | _ => none)
  | _ => none
def nilLen {δ β : Type} (M : Mk δ β) (tab : Tab) (D : St δ β) (t : TypeId) (x : Operand) : Option Nat :=
  match tab.ti t with
  | some ⟨_, _, _, .slice _⟩ =>
    match opd M.nil D x with
    | some (.one (.s _ _ _ rows)) => some rows.length
    | _ => none
  | _ => none
open Classical in
noncomputable def forkNil {R : Type} (D : US) (d : Nat) (ng : Bool) (n : Nat) (K : US → Option R) : Option R :=
  if n = 0 then
    match K (putA D d (.one (.v (.bool (!ng))))) with
    | some r => if K (putA D d (.one (.v (.bool ng)))) = some r then some r else none
    | none => none
  else K (putA D d (.one (.v (.bool ng))))
noncomputable def runC (tab : Tab) (fns : FuncId → Option Func) (C : Sem1) (h : Hint) (n : Nat) {R : Type} : Code → US → (Exit → US → Option R) → Option R
  | .skip, D, K => K .normal D
  | .region id ops draw, D, K =>
    match draw with
    | true => (match h.draw id with
      | some (m, anc) => runD tab fns C (h.take id) ops m anc (match h.keep id with | some l => forget l D | none => D)
      | none => none).bind fun D' => K .normal D'
    | false =>
      match nilLast ops.toList with
      | some (init, t, x, d, ng) => (runOps tab fns C (h.take id) ops init 0 (match h.keep id with | some l => forget l D | none => D)).bind fun D' =>
        match nilLen mkU tab D' t x with
        | some n => if d < D'.length then forkNil D' d ng n (K .normal) else none
        | none => none
      | none => (runOps tab fns C (h.take id) ops ops.toList 0 (match h.keep id with | some l => forget l D | none => D)).bind fun D' => K .normal D'
  | .seq x y, D, K => runC tab fns C h n x D fun e D' => match e with | .normal => runC tab fns C h n y D' K | e => K e D'
  | .cond c x y, D, K => match boolOf mkU D c with | some true => runC tab fns C h n x D K | some false => runC tab fns C h n y D K | none => none
  | .block id c, D, K => runC tab fns C h n c D fun e D' => match e with | .exit id' => if id' = id then K .normal D' else K (.exit id') D' | e => K e D'
  | .exit id, D, K => K (.exit id) D
  | .ret, D, K => K .ret D
  | .loop c, D, K => iterK (fun D K => runC tab fns C h n c D fun e D' => K e (canon h c e D')) n (atHead h c D) K
  | _, _, _ => none

theorem er_nilLen (tab : Tab) (D : DSt) (t : TypeId) (x : Operand) : nilLen mkU tab (erD D) t x = nilLen mkD tab D t x := by
  unfold nilLen
  rw [er_opd1]
  split
  · cases opd mkD.nil D x with
    | none => rfl
    | some s =>
      cases s with
      | one u => cases u <;> simp [Sl.er, T.er, erRows_eq]
      | _ => rfl
  · rfl
theorem nilLast_spec {ops init : List Oper} {t : TypeId} {x : Operand} {d : Nat} {ng : Bool} (h : nilLast ops = some (init, t, x, d, ng)) :
    ∃ o : Oper, ops = init ++ [o] ∧ o.dst = some d ∧ o.guard = none ∧ ∃ ty, o.op = .binOp (if ng then .neq else .eql) t x (.const (.slice none 0 0)) ty := by
  unfold nilLast at h
  split at h
  case h_2 => cases h
  rename_i op t' x' ty d' p q hl
  have hne := List.getLast?_eq_some_iff.1 hl
  obtain ⟨ys, hys⟩ := hne
  split at h
  · cases h
    exact ⟨⟨some d, .binOp .eql t x (.const (.slice none 0 0)) ty, d', p, q, none⟩, by rw [hys]; simp, rfl, rfl, ty, rfl⟩
  · cases h
    exact ⟨⟨some d, .binOp .neq t x (.const (.slice none 0 0)) ty, d', p, q, none⟩, by rw [hys]; simp, rfl, rfl, ty, rfl⟩
  · cases h
theorem run_nil {P : Program} {t e : TypeId} (hu : P.underlying t = some (.slice e)) (ng : Bool) (ad : Option Addr) (n cap : Nat) (w : World) :
    (binOp (if ng then .neq else .eql) t (.slice ad n cap) (.slice none 0 0)).run P w = .ok (.bool (if ad.isNone then !ng else ng)) w := by
  have h1 : ∀ d, (Op.equalIn (d + 1) t (.slice ad n cap) (.slice none 0 0)).run P w = .ok ad.isNone w := fun d => by
    unfold Op.equalIn
    cases ad <;> simp [run_underlying hu]
  have h2 : (Op.equal t (.slice ad n cap) (.slice none 0 0)).run P w = .ok ad.isNone w := h1 9999
  cases ng with
  | false =>
    show (do pure (.bool (← Op.equal t (.slice ad n cap) (.slice none 0 0))) : Sem Value).run P w = _
    simp [h2]
    cases ad <;> rfl
  | true =>
    show (do pure (.bool (!(← Op.equal t (.slice ad n cap) (.slice none 0 0)))) : Sem Value).run P w = _
    simp [h2]
    cases ad <;> rfl
theorem Inv.nilStep {P : Program} {tab : Tab} (ok : TabOk P tab) {ops : Array Oper} {Q : Exit → Act → World → Prop} {cx : Cx} {R : Type} {r : R} {D : DSt} {a : Act} {w : World} (I : Inv cx D [] a.tmps w) {t : TypeId} {x : Operand} {n d : Nat} {ng : Bool} {K : US → Option R} {o : Oper}
    (hn : nilLen mkU tab (erD D) t x = some n) (hd : d < D.length) (hop : ∃ ty, o.op = .binOp (if ng then .neq else .eql) t x (.const (.slice none 0 0)) ty) (hdst : o.dst = some d) (hg : o.guard = none) (e : forkNil (erD D) d ng n K = some r)
    (hQ : ∀ D2 y, K (erD D2) = some r → Inv cx D2 [] (a.put o.dst y).tmps w → Q .normal (a.put o.dst y) w) : wpList P ops Q [o] a w := by
  rw [er_nilLen] at hn
  unfold nilLen at hn
  split at hn
  case h_2 => cases hn
  rename_i sz by_ ze el hti
  have hu := ti_slice (Tab.ok ok hti) rfl
  split at hn
  case h_2 => cases hn
  rename_i k dd z rows hx
  cases hn
  have hT := I.opd hx
  have hy : a.eval x = .slice dd.addr rows.length dd.cap := hT.val
  obtain ⟨ty, hop⟩ := hop
  have hrun : (execOp a.eval o).run P w = .ok (.value (.bool (if dd.addr.isNone then !ng else ng))) w := by
    unfold execOp
    rw [hop]
    have h1 := run_nil hu ng dd.addr rows.length dd.cap w
    have h2 : a.eval (.const (.slice none 0 0)) = .slice none 0 0 := rfl
    simp only [hy, h2]
    have h3 : (eqGuard (if ng = true then BinOp.neq else BinOp.eql) t x (.const (.slice none 0 0)) (.slice dd.addr rows.length dd.cap) (.slice none 0 0)).run P w = .ok () w := by
      cases ng <;> rfl
    simp [h1, h3]
  have go : ∀ β : Bool, K (Am.putA (erD D) d (.one (.v (.bool β)))) = some r → (if dd.addr.isNone then !ng else ng) = β → Q .normal (a.put o.dst (.bool (if dd.addr.isNone then !ng else ng))) w := fun β h1 h2 => by
    refine hQ (Am.putA D d (.one (.v (.bool β)))) _ ?_ ?_
    · rw [er_putA]
      exact h1
    · rw [hdst, h2]
      exact I.putA hd (Tells.one_v (.bool β) rfl)
  unfold wpList
  rw [if_pos (by simp [Region.wanted, hg])]
  refine .inl ?_
  unfold Oper.wp
  rw [hrun]
  show wpList P ops Q [] _ w
  unfold wpList
  unfold forkNil at e
  split at e
  · split at e
    case h_2 => cases e
    rename_i r1 h1
    split at e
    case isFalse => cases e
    rename_i h2
    cases e
    cases hb : dd.addr.isNone with
    | true => have := go (!ng) h1 (by simp [hb]); rwa [hb] at this
    | false => have := go ng h2 (by simp [hb]); rwa [hb] at this
  · rename_i hne
    have hb : dd.addr.isNone = false := by
      cases hq : dd.addr with
      | some _ => rfl
      | none =>
        exfalso
        have hH := hT.mem.1 (.s k dd z rows) (by simp [rootsOf])
        have hnil : dd.nil = true := by
          unfold Dec.addr at hq
          split at hq
          · cases hq
          · cases hd2 : dd.nil with
            | true => rfl
            | false => rw [hd2] at hq; cases hq
        exact hne (by rw [Holds.nilrows hH hnil]; rfl)
    exact go ng e (by simp [hb])
def opsIn : Code → List Oper
  | .region _ ops _ => ops.toList
  | .seq x y => opsIn x ++ opsIn y
  | .cond _ x y => opsIn x ++ opsIn y
  | .block _ c => opsIn c
  | .loop c => opsIn c
  | _ => []
def fixB (is : List Nat) (c : Code) : Bool := is.isEmpty || (opsIn c).all fun o => match o.dst with | some t => !is.contains t | none => true

theorem runC_sound {P : Program} {tab : Tab} (ok : TabOk P tab) {fns : FuncId → Option Func} (hf : FnsOk P fns) {C : Sem1} (hC : CallsOk P C) {h : Hint} {n : Nat} {R : Type} {cx : Cx} {T : Act → Prop} {r : R} :
    ∀ (c : Code) {K : Exit → US → Option R} {Q : Exit → Act → World → Prop}, (∀ o ∈ opsIn c, ∀ a y, T a → T (a.put o.dst y)) → (∀ e D' a' w', K e (erD D') = some r → T a' → Inv cx D' [] a'.tmps w' → Q e a' w') →
      ∀ {D : DSt} {a : Act} {w : World}, Inv cx D [] a.tmps w → T a → runC tab fns C h n c (erD D) K = some r → c.wp P Q a w
  | .skip, K, Q, hT, hQ, D, a, w, I, hd, e => wp_skip (hQ .normal D a w e hd I)
  | .region id ops draw, K, Q, hT, hQ, D, a, w, I, hd, e => by
    simp only [runC] at e
    cases draw with
    | true =>
      simp only at e
      rw [Option.bind_eq_some_iff] at e
      obtain ⟨U, e1, e2⟩ := e
      split at e1
      case h_2 => cases e1
      rename_i m anc hdr
      have key : ∀ D1, Inv cx D1 [] a.tmps w → Am.runD tab fns C (h.take id) ops m anc (erD D1) = some U → (Code.region id ops true).wp P Q a w := fun D1 I1 e1 =>
        Inv.runD (tk := h.take id) ok ok.mixed hf hC hT (fun D' a' w' h1 h2 h3 => hQ .normal D' a' w' (by rw [h1]; exact e2) h2 h3) I1 hd e1
      split at e1
      · rename_i l hl
        rw [← er_forget] at e1
        exact key _ (I.forget l) e1
      · exact key _ I e1
    | false =>
      simp only at e
      refine wp_region_list ?_
      split at e
      · rename_i init t x d ng hl
        rw [Option.bind_eq_some_iff] at e
        obtain ⟨U, e1, e2⟩ := e
        obtain ⟨o, ho, hdst, hgd, hrun⟩ := nilLast_spec hl
        have hT : ∀ o' ∈ init ++ [o], ∀ a y, T a → T (a.put o'.dst y) := fun o' ho' => hT o' (by show o' ∈ ops.toList; rw [ho]; exact ho')
        rw [ho]
        have key : ∀ D1, Inv cx D1 [] a.tmps w → Am.runOps tab fns C (h.take id) ops init 0 (erD D1) = some U → wpList P ops Q (init ++ [o]) a w := fun D1 I1 e1 =>
          Inv.runOps2 (tk := h.take id) ok hf hC (fun D' a' w' h1 h2 h3 => by
            subst h1
            split at e2
            case h_2 => cases e2
            rename_i n hn
            rw [er_len] at e2
            split at e2
            case isFalse => cases e2
            rename_i hd'
            exact h3.nilStep ok hn hd' hrun hdst hgd e2 (fun D2 y h4 h5 => hQ .normal D2 _ _ h4 (hT o (by simp) a' y h2) h5)) init 0 (fun o' ho' => hT o' (by simp [ho'])) I1 hd e1
        split at e1
        · rename_i l hl
          rw [← er_forget] at e1
          exact key _ (I.forget l) e1
        · exact key _ I e1
      rw [Option.bind_eq_some_iff] at e
      obtain ⟨U, e1, e2⟩ := e
      have key : ∀ D1, Inv cx D1 [] a.tmps w → Am.runOps tab fns C (h.take id) ops ops.toList 0 (erD D1) = some U → wpList P ops Q ops.toList a w := fun D1 I1 e1 =>
        Inv.runOps (tk := h.take id) ok hf hC (fun D' a' w' h1 h2 h3 => hQ .normal D' a' w' (by rw [h1]; exact e2) h2 h3) ops.toList 0 hT I1 hd e1
      split at e1
      · rename_i l hl
        rw [← er_forget] at e1
        exact key _ (I.forget l) e1
      · exact key _ I e1
  | .seq x y, K, Q, hT, hQ, D, a, w, I, hd, e => by
    simp only [runC] at e
    refine wp_seq (runC_sound ok hf hC x (fun o ho => hT o (List.mem_append.2 (.inl ho))) (fun e' D' a' w' h1 h2 h3 => ?_) I hd e)
    cases e' with
    | normal => exact runC_sound ok hf hC y (fun o ho => hT o (List.mem_append.2 (.inr ho))) hQ h3 h2 h1
    | _ => exact hQ _ D' a' w' h1 h2 h3
  | .cond c x y, K, Q, hT, hQ, D, a, w, I, hd, e => by
    simp only [runC, er_boolOf] at e
    split at e
    · rename_i hb
      exact wp_cond (I.boolOf hb) (runC_sound ok hf hC x (fun o ho => hT o (List.mem_append.2 (.inl ho))) hQ I hd e)
    · rename_i hb
      exact wp_cond (I.boolOf hb) (runC_sound ok hf hC y (fun o ho => hT o (List.mem_append.2 (.inr ho))) hQ I hd e)
    · cases e
  | .block id c, K, Q, hT, hQ, D, a, w, I, hd, e => by
    simp only [runC] at e
    refine wp_block (runC_sound ok hf hC c hT (fun e' D' a' w' h1 h2 h3 => ?_) I hd e)
    cases e' with
    | exit id' =>
      simp only [Exit.inBlock]
      simp only at h1
      split
      · rename_i hid
        rw [if_pos hid] at h1
        exact hQ .normal D' a' w' h1 h2 h3
      · rename_i hid
        rw [if_neg hid] at h1
        exact hQ _ D' a' w' h1 h2 h3
    | _ => exact hQ _ D' a' w' h1 h2 h3
  | .exit id, K, Q, hT, hQ, D, a, w, I, hd, e => wp_exit (hQ (.exit id) D a w e hd I)
  | .ret, K, Q, hT, hQ, D, a, w, I, hd, e => wp_ret (hQ .ret D a w e hd I)
  | .loop c, K, Q, hT, hQ, D, a, w, I, hd, e => by
    simp only [runC] at e
    refine wp_loop_rounds n ?_
    have key : ∀ (m : Nat) {D : DSt} {a : Act} {w : World}, Inv cx D [] a.tmps w → T a → iterK (fun D K => runC tab fns C h n c D fun e D' => K e (Am.canon h c e D')) m (erD D) K = some r → Code.rounds P c Q m a w := by
      intro m
      induction m with
      | zero => intro D a w I hd e; cases e
      | succ m ih =>
        intro D a w I hd e
        simp only [iterK] at e
        rw [rounds_succ]
        refine runC_sound ok hf hC c hT (fun e' D' a' w' h1 h2 h3 => ?_) I hd e
        rw [← er_canon] at h1
        have h3' := h3.canon h c e'
        cases e' with
        | normal => exact ih h3' h2 h1
        | _ => exact hQ _ _ a' w' h1 h2 h3'
    rw [← er_atHead] at e
    exact key n (I.atHead h c) hd e
  | .rangeFunc .., K, Q, hT, hQ, D, a, w, I, hd, e => by cases e
  | .scope _, K, Q, hT, hQ, D, a, w, I, hd, e => by cases e
  | .label _, K, Q, hT, hQ, D, a, w, I, hd, e => by cases e
  | .goto _, K, Q, hT, hQ, D, a, w, I, hd, e => by cases e
  | .refuse _, K, Q, hT, hQ, D, a, w, I, hd, e => by cases e
end Go.Proofs.Ytalapefcbodhaaa.Am
namespace Go.Proofs.Ytalapefcbodhaaa.Am
set_option linter.unusedVariables false
set_option linter.unusedSimpArgs false
open Go

section
variable {δ β : Type}
def resOne (M : Mk δ β) (tab : Tab) (D : St δ β) : ResultVar → Option (Bool × List (T δ) × Nat)
  | .tmp t =>
    match D[t]? with
    | some (.one u) => some (false, [u], t)
    | some (.agg ts) => some (true, ts, t)
    | some (.al h c st lo len) =>
      if lo = 0 ∨ 0 < len then
        match cellAt D h c with
        | some u => if u.isOwn then match getN u st with | some (.s .own d z rows) => some (false, [.s .own (M.win d lo z) z ((rows.drop lo).take len)], h) | _ => none else none
        | none => none
      else none
    | _ => none
  | .cell a t =>
    match D[a]?, tab.ti t with
    | some (.box _ ts), some ti => if ts.length = ti.size ∧ ti.sh ≠ .other ∧ (ti.sh.agg = false → ts.length = 1) then some (ti.sh.agg, ts, a) else none
    | _, _ => none
def resL (M : Mk δ β) (tab : Tab) (D : St δ β) : List ResultVar → Option (List (Bool × List (T δ) × Nat))
  | [] => some []
  | r :: rs => (resOne M tab D r).bind fun x => (resL M tab D rs).map fun xs => x :: xs
def ownAny (r : Bool × List (T δ) × Nat) : Bool := r.2.1.any T.isOwn
end

abbrev erT (r : Bool × List DT × Nat) : Bool × List (T Unit) × Nat := (r.1, erL r.2.1, r.2.2)
theorem er_resOne (tab : Tab) (D : DSt) (r : ResultVar) : resOne mkU tab (erD D) r = (resOne mkD tab D r).map erT := by
  cases r with
  | tmp t =>
    simp only [resOne, er_get]
    cases D[t]? with
    | none => rfl
    | some s =>
      cases s with
      | al h c st lo len =>
        simp only [Option.map_some, Sl.er]
        split
        · rw [er_cellAt]
          cases cellAt D h c with
          | none => rfl
          | some u =>
            simp only [Option.map_some, er_isOwn]
            split
            · rw [er_getN]
              cases getN u st with
              | none => rfl
              | some n =>
                cases n with
                | s k d z rows =>
                  cases k with
                  | own => simp only [Option.map_some, er_s, erT]; rw [← er_win]; rfl
                  | _ => simp [er_s]
                | _ => rfl
            · rfl
        · rfl
      | _ => rfl
  | cell a t =>
    simp only [resOne, er_get]
    cases D[a]? with
    | none => rfl
    | some s =>
      cases s with
      | box b ts =>
        cases tab.ti t with
        | none => rfl
        | some ti => simp only [Option.map_some, Sl.er, List.length_map]; split <;> rfl
      | _ => rfl
theorem er_resL (tab : Tab) (D : DSt) : ∀ rs, resL mkU tab (erD D) rs = (resL mkD tab D rs).map (List.map erT)
  | [] => rfl
  | r :: rs => by
    simp only [resL, er_resOne, er_resL tab D rs]
    cases resOne mkD tab D r with
    | none => rfl
    | some x =>
      simp only [Option.map_some, Option.bind_some]
      cases resL mkD tab D rs <;> rfl
theorem er_anyL (f : DT → Bool) (g : T Unit → Bool) (h : ∀ t, g t.er = f t) (ts : List DT) : (erL ts).any g = ts.any f := by
  simp only [erL, List.any_map]; congr 1; funext t; exact h t
def homesOf {δ β : Type} : Nat → List (Sl δ β) → List (Nat × HK)
  | _, [] => []
  | k, a :: as => match hkOf a with | some q => (k, q) :: homesOf (k + 1) as | none => homesOf (k + 1) as
section
variable {δ β : Type}
def outOne (D : St δ β) (p : Nat × HK) : Option (Bool × List (T δ)) :=
  match p.2, D[p.1]? with
  | .box, some (.box _ ts) => some (true, ts)
  | .one, some (.one u) => some (false, [u])
  | .one, some .any => some (false, [.any])
  | .agg, some (.agg ts) => some (true, ts)
  | _, _ => none
def outsL (D : St δ β) : List (Nat × HK) → Option (List (Bool × List (T δ)))
  | [] => some []
  | p :: ps => (outOne D p).bind fun x => (outsL D ps).map fun xs => x :: xs
def ptrRes (M : Mk δ β) (D : St δ β) : List ResultVar → Option ((Bool × List (T δ)) × Nat)
  | [.tmp t] => (cloHome D (.tmp t)).bind fun h => match D[h]? with | some (.box b ts) => if ts.all T.fine = true ∧ 0 < ts.length then some ((false, [.s .own (M.ptr b) ts.length [ts], .any]), h) else none | _ => none
  | _ => none
def endG (M : Mk δ β) (tab : Tab) (D : St δ β) (hs : List (Nat × HK)) (rs : List ResultVar) : Option (List (Bool × List (T δ))) :=
  match ptrRes M D rs with
  | some (r, t) => (outsL D hs).bind fun os => if (os.all fun r => r.2.all T.fine) = true ∧ (hs.map (·.1) ++ [t]).Nodup then some (os ++ [r]) else none
  | none => (outsL D hs).bind fun os => (resL M tab D rs).bind fun l =>
    if (os.all fun r => r.2.all T.fine) = true ∧ (l.all fun r => r.2.1.all T.fine) = true ∧ (hs.map (·.1) ++ (l.filter ownAny).map (·.2.2)).Nodup then some (os ++ l.map fun r => (r.1, r.2.1)) else none
end
theorem er_hkOf (s : DSl) : hkOf s.er = hkOf s := by
  cases s with
  | one u => simp only [Sl.er, hkOf, er_isOwn]
  | agg ts =>
    simp only [Sl.er, hkOf]
    rw [show (List.map T.er ts).any T.isOwn = ts.any T.isOwn by rw [List.any_map]; congr 1; funext t; exact er_isOwn t]
  | _ => rfl
theorem er_homesOf : ∀ (k : Nat) (ad : List DSl), homesOf k (ad.map Sl.er) = homesOf k ad
  | _, [] => rfl
  | k, a :: as => by
    simp only [List.map_cons, homesOf, er_hkOf, er_homesOf (k + 1) as]
theorem er_outOne (D : DSt) (p : Nat × HK) : outOne (erD D) p = (outOne D p).map fun r => (r.1, erL r.2) := by
  obtain ⟨i, k⟩ := p
  simp only [outOne, er_get]
  cases D[i]? with
  | none => cases k <;> rfl
  | some s => cases s <;> cases k <;> rfl
theorem er_outsL (D : DSt) : ∀ ps, outsL (erD D) ps = (outsL D ps).map erR
  | [] => rfl
  | p :: ps => by
    simp only [outsL, er_outOne, er_outsL D ps]
    cases outOne D p with
    | none => rfl
    | some x =>
      simp only [Option.map_some, Option.bind_some]
      cases outsL D ps <;> rfl
def endV {δ β : Type} (M : Mk δ β) (tab : Tab) (D : St δ β) (hs : List (Nat × HK)) (rs : List ResultVar) : Option (List (Bool × List (T δ))) :=
  if (hs.all fun p => match p.2 with | .one => true | _ => false) = true then (endG M tab D [] rs).map fun r => hs.map (fun _ => (false, [.any])) ++ r else none
theorem er_ptrRes (D : DSt) (rs : List ResultVar) : ptrRes mkU (erD D) rs = (ptrRes mkD D rs).map fun p => ((p.1.1, erL p.1.2), p.2) := by
  unfold ptrRes
  split
  · rename_i t
    rw [er_cloHome]
    cases cloHome D (.tmp t) with
    | none => rfl
    | some h =>
    simp only [Option.bind_some]
    rw [er_get]
    cases D[h]? with
    | none => rfl
    | some s =>
      cases s with
      | box b ts =>
        simp only [Option.map_some, Sl.er]
        rw [show (List.map T.er ts).all T.fine = ts.all T.fine from er_all T.fine T.fine er_fine ts, List.length_map]
        split
        · simp only [Option.map_some, erL, List.map_cons, List.map_nil, er_s]; rfl
        · rfl
      | _ => rfl
  · rfl
theorem er_endG (tab : Tab) (D : DSt) (hs : List (Nat × HK)) (rs : List ResultVar) : endG mkU tab (erD D) hs rs = (endG mkD tab D hs rs).map erR := by
  unfold endG
  rw [er_outsL, er_resL, er_ptrRes]
  have h0 : ∀ os : DRes, ((erR os).all fun r => r.2.all T.fine) = (os.all fun r => r.2.all T.fine) := by
    intro os
    unfold erR
    rw [List.all_map]
    congr 1; funext r
    exact er_all T.fine T.fine er_fine r.2
  cases hpr : ptrRes mkD D rs with
  | some p =>
    obtain ⟨r, t⟩ := p
    simp only [Option.map_some]
    cases outsL D hs with
    | none => rfl
    | some os =>
      simp only [Option.map_some, Option.bind_some, h0]
      split
      · simp only [Option.map_some, erR_append]
        rfl
      · rfl
  | none =>
  simp only [Option.map_none]
  cases outsL D hs with
  | none => rfl
  | some os =>
    simp only [Option.map_some, Option.bind_some]
    cases resL mkD tab D rs with
    | none => rfl
    | some l =>
      simp only [Option.map_some, Option.bind_some]
      have h0 : ((erR os).all fun r => r.2.all T.fine) = (os.all fun r => r.2.all T.fine) := by
        unfold erR
        rw [List.all_map]
        congr 1; funext r
        exact er_all T.fine T.fine er_fine r.2
      have h1 : ((l.map erT).all fun r => r.2.1.all T.fine) = (l.all fun r => r.2.1.all T.fine) := by
        rw [List.all_map]
        congr 1; funext r
        exact er_all T.fine T.fine er_fine r.2.1
      have h2 : ((l.map erT).filter ownAny).map (·.2.2) = (l.filter ownAny).map (·.2.2) := by
        rw [List.filter_map, List.map_map]
        have : (ownAny ∘ erT : Bool × List DT × Nat → Bool) = ownAny := by
          funext r; exact er_anyL T.isOwn T.isOwn er_isOwn r.2.1
        rw [this]; rfl
      rw [h0, h1, h2]
      split
      · simp only [Option.map_some, erR_append]
        congr 2
        unfold erR
        rw [List.map_map, List.map_map]; rfl
      · rfl

theorem er_endV (tab : Tab) (D : DSt) (hs : List (Nat × HK)) (rs : List ResultVar) : endV mkU tab (erD D) hs rs = (endV mkD tab D hs rs).map erR := by
  unfold endV
  split
  · rw [er_endG, Option.map_map, Option.map_map]
    congr 1
    funext r
    simp only [Function.comp, erR_append]
    congr 1
    unfold erR
    rw [List.map_map]
    rfl
  · rfl
structure ResOk (P : Program) (D : DSt) (tm : Array Value) (w : World) (r : ResultVar) (x : Bool × List DT × Nat) (y : Value) : Prop where
  run : (match r with | .tmp t => (pure (tm.getD t undef) : Sem Value) | .cell a t => do loadVar t (← asAddr (tm.getD a undef))).run P w = .ok y w
  part : VPart (x.1, x.2.1) y
  holds : ∀ t ∈ x.2.1, Holds w t
  own : ∀ t ∈ x.2.1, t.isOwn = true → OwnT w t
  home : ∃ s, D[x.2.2]? = some s ∧ ∀ b, (x.2.1.flatMap ownR).count b ≤ (ownBl s).count b

theorem Inv.resOne {P : Program} {tab : Tab} (ok : TabOk P tab) {cx : Cx} {D : DSt} {tm : Array Value} {w : World} (I : Inv cx D [] tm w) {r : ResultVar} {x : Bool × List DT × Nat}
    (e : resOne mkD tab D r = some x) : ∃ y, ResOk P D tm w r x y := by
  cases r with
  | tmp t =>
    simp only [Am.resOne] at e
    split at e
    · rename_i u h
      cases e
      have hv := I.val t _ h
      have hm := I.mem _ (List.mem_of_getElem? h)
      exact ⟨_, ⟨rfl, ⟨u, rfl, hv⟩, fun v hv' => hm.1 v (by simpa [rootsOf] using hv'), fun v hv' => hm.2.1 v (by simpa [rootsO] using hv'), _, h, fun b => by simp [ownBl]⟩⟩
    · rename_i ts h
      cases e
      have hv := I.val t _ h
      have hm := I.mem _ (List.mem_of_getElem? h)
      exact ⟨_, ⟨rfl, hv, hm.1, hm.2.1, _, h, fun b => Nat.le_refl _⟩⟩
    · rename_i h c st lo len hD
      split at e
      case isFalse => cases e
      rename_i hcond
      split at e
      case h_2 => cases e
      rename_i u hu
      split at e
      case isFalse => cases e
      rename_i ho
      split at e
      case h_2 => cases e
      rename_i d z rows hg
      cases e
      have hv := I.val t _ hD
      obtain ⟨d', z', n, ad, ⟨t1, q1, q2, k2, rows2, q3, q4⟩, hle, hy, ha, ha0⟩ := hv
      rw [hu] at q1; cases q1
      rw [hg] at q3; cases q3
      obtain ⟨s, hs, hsm, hr, hr', hsub⟩ := cellAt_mem hu
      have hm := I.mem s hsm
      have g5 := Holds.getN st (hm.1 u hr) hg
      have g6 := OwnT.getN st (hm.2.1 u hr' ho) hg
      refine ⟨_, ⟨rfl, ⟨_, rfl, ?_⟩, fun v hv' => ?_, fun v hv' _ => ?_, s, hs, fun b => ?_⟩⟩
      · rw [hy]
        exact VT_win (by omega) g5.cap g6.sp rfl ha ha0 g5.nilrows hcond
      · simp at hv'; subst hv'; exact g5.win lo len (by omega)
      · simp at hv'; subst hv'; exact g6.win lo len (by omega)
      · have h1 := bl_win_count (k := .own) (k' := .own) (d := d) (z := z) rows lo len b
        have h2 := bl_getN_count st hg b
        have h3 : (bl u).count b ≤ (ownBl s).count b := by
          unfold cellAt at hu
          simp only [Option.bind_eq_some_iff] at hu
          obtain ⟨cs, ⟨s', hs', hcs⟩, ht⟩ := hu
          rw [hs] at hs'; cases hs'
          have h4 := ownBl_home hcs b
          have h5 := count_set ownR (T.any : DT) b cs c u ht
          have h6 : (ownR (T.any : DT)).count b = 0 := rfl
          have h7 : ownR u = bl u := by simp [ownR, ho]
          rw [h7] at h5
          omega
        simp only [List.flatMap_cons, List.flatMap_nil, List.append_nil, ownR, T.isOwn, if_true]
        omega
    · cases e
  | cell a t =>
    simp only [Am.resOne] at e
    split at e
    · rename_i b ts ti hD hti
      split at e
      case isFalse => cases e
      rename_i hc
      cases e
      have hv := I.val a _ hD
      have hm := I.mem _ (List.mem_of_getElem? hD)
      have C : Cells w b.1 b.2 ts := ⟨hm.2.2.1, hm.1⟩
      obtain ⟨y, h1, h2⟩ := C.load (Tab.ok ok hti) hc.2.1 hc.1 hc.2.2
      have hy : tm.getD a undef = .pointer (some ⟨b.1, b.2, none⟩) := hv
      refine ⟨y, ⟨?_, ?_, hm.1, hm.2.1, _, hD, fun x => ?_⟩⟩
      · show ((do loadVar t (← asAddr (tm.getD a undef))) : Sem Value).run P w = _
        rw [hy]
        exact h1
      · unfold VPart
        simp only
        split at h2
        · rename_i ha; rw [if_pos ha]; exact h2
        · rename_i ha; rw [if_neg ha]; exact h2
      · simp only [ownBl, List.count_cons]; omega
    · cases e
end Go.Proofs.Ytalapefcbodhaaa.Am
namespace Go.Proofs.Ytalapefcbodhaaa.Am
set_option linter.unusedVariables false
set_option linter.unusedSimpArgs false
open Go

def resSem (tm : Array Value) : ResultVar → Sem Value
  | .tmp t => pure (tm.getD t undef)
  | .cell a t => do loadVar t (← asAddr (tm.getD a undef))
theorem Inv.resL {P : Program} {tab : Tab} (ok : TabOk P tab) {cx : Cx} {D : DSt} {tm : Array Value} {w : World} (I : Inv cx D [] tm w) : ∀ {rs : List ResultVar} {l : List (Bool × List DT × Nat)},
    resL mkD tab D rs = some l → ∃ ys : List Value, ys.length = l.length ∧ (rs.mapM (resSem tm)).run P w = .ok ys w ∧ ∀ (i : Nat) (x : Bool × List DT × Nat) (y : Value), l[i]? = some x → ys[i]? = some y → ∃ r, ResOk P D tm w r x y
  | [], l, e => by cases e; exact ⟨[], rfl, by simp, fun i x y h => by simp at h⟩
  | r :: rs, l, e => by
    simp only [Am.resL, Option.bind_eq_some_iff, Option.map_eq_some_iff] at e
    obtain ⟨x, h1, xs, h2, rfl⟩ := e
    obtain ⟨y, hy⟩ := I.resOne ok h1
    obtain ⟨ys, g1, g2, g3⟩ := Inv.resL ok I h2
    refine ⟨y :: ys, by simp [g1], ?_, fun i x' y' hi hy' => ?_⟩
    · have hr : (resSem tm r).run P w = .ok y w := by
        have := hy.run
        cases r <;> exact this
      simp [List.mapM_cons, hr, g2]
    · cases i with
      | zero => simp at hi hy'; subst hi; subst hy'; exact ⟨r, hy⟩
      | succ i => simp at hi hy'; exact g3 i x' y' hi hy'

def retVal : List Value → Value
  | [y] => y
  | ys => .tuple ys.toArray
theorem run_results {P : Program} (fn : Func) (tm : Array Value) (w : World) {ys : List Value} (h : (fn.results.toList.mapM (resSem tm)).run P w = .ok ys w) :
    (results fn tm).run P w = .ok (retVal ys) w := by
  have e : results fn tm = (do let vs ← fn.results.mapM (resSem tm); pure (if h : vs.size = 1 then vs[0] else .tuple vs)) := by
    unfold results
    congr 1
  rw [e, Array.mapM_eq_mapM_toList]
  simp only [Sem.run_bind, Sem.run_map, h]
  match ys with
  | [] => simp [retVal]
  | [y] => simp [retVal]
  | y :: y' :: ys => simp [retVal]

theorem own_sum : ∀ (l : List (List Nat × Nat)) (D : DSt), (l.map (·.2)).Nodup → (∀ x ∈ l, ∃ s, D[x.2]? = some s ∧ ∀ b, x.1.count b ≤ (ownBl s).count b) → ∀ b, (l.flatMap (·.1)).count b ≤ cntD D b
  | [], D, _, _, b => by simp
  | x :: l, D, hn, h, b => by
    rw [List.map_cons, List.nodup_cons] at hn
    obtain ⟨hn1, hn2⟩ := hn
    obtain ⟨s, hs, hc⟩ := h x (by simp)
    have h1 := count_set ownBl (Sl.any : DSl) b D x.2 s hs
    have h0 : (ownBl (Sl.any : DSl)).count b = 0 := rfl
    have h2 := own_sum l (D.set x.2 .any) hn2 (fun y hy => by
      obtain ⟨s', hs', hc'⟩ := h y (by simp [hy])
      have hne : x.2 ≠ y.2 := fun e => hn1 (by rw [e]; exact List.mem_map.2 ⟨y, hy, rfl⟩)
      exact ⟨s', by rw [List.getElem?_set_ne hne]; exact hs', hc'⟩) b
    have h3 := hc b
    rw [List.flatMap_cons, List.count_append]
    unfold cntD at *
    omega
theorem own_filter (l : List (Bool × List DT × Nat)) : (l.flatMap fun r => r.2.1.flatMap ownR) = ((l.filter ownAny).flatMap fun r => r.2.1.flatMap ownR) := by
  induction l with
  | nil => rfl
  | cons y l' ih =>
    by_cases hy : ownAny y = true
    · rw [List.filter_cons_of_pos hy, List.flatMap_cons, List.flatMap_cons, ih]
    · rw [List.filter_cons_of_neg hy, List.flatMap_cons, ih]
      have : y.2.1.flatMap ownR = [] := by
        rw [List.flatMap_eq_nil_iff]
        intro t ht
        refine ownR_not ?_
        cases ho : t.isOwn with
        | false => rfl
        | true => exact absurd (by unfold ownAny; rw [List.any_eq_true]; exact ⟨t, ht, ho⟩) hy
      rw [this]; rfl
theorem outs_ok {cx : Cx} {D : DSt} {tm : Array Value} {w : World} (I : Inv cx D [] tm w) {w0 : World} {X : List Nat} : ∀ (ad : List DSl) (vs : List Value) (k : Nat) {os : DRes}, ad.length = vs.length →
    (∀ (i : Nat) (a : DSl) (y : Value), ad[i]? = some a → vs[i]? = some y → AOk w0 X a y) → outsL D (homesOf k ad) = some os →
    (∀ (i : Nat) (a : DSl) (y : Value), ad[i]? = some a → vs[i]? = some y → (hkOf a).isSome = true → tm.getD (k + i) undef = y) →
    OutsOk w ad vs os ∧ (∀ r ∈ os, ∃ s ∈ D, ∀ t ∈ r.2, t = .any ∨ t ∈ rootsO s ∧ t ∈ rootsOf s) ∧ (∀ p ∈ homesOf k ad, p.1 < D.length) ∧
      ∀ b, (resBl os).count b + (ad.flatMap boxBl).count b ≤ (((homesOf k ad).map fun p => (ownBl (D[p.1]?.getD .any), p.1)).flatMap (·.1)).count b
  | [], vs, k, os, _, _, e, _ => by
    cases e
    refine ⟨?_, fun r h => (by cases h), fun p h => (by cases h), fun b => by simp [resBl]⟩
    cases vs <;> exact rfl
  | a :: as, [], k, os, hl, _, _, _ => by simp at hl
  | a :: as, y :: ys, k, os, hl, hA, e, hT => by
    have ih := fun {os} => outs_ok I (w0 := w0) (X := X) as ys (k + 1) (os := os) (by simpa using hl) (fun i a' y' h1 h2 => hA (i + 1) a' y' (by simpa using h1) (by simpa using h2))
    have hT' : ∀ (i : Nat) (a : DSl) (y : Value), as[i]? = some a → ys[i]? = some y → (hkOf a).isSome = true → tm.getD (k + 1 + i) undef = y := fun i a' y' h1 h2 h3 => by
      rw [show k + 1 + i = k + (i + 1) by omega]
      exact hT (i + 1) a' y' (by simpa using h1) (by simpa using h2) h3
    unfold homesOf at e ⊢
    cases hk : hkOf a with
    | none =>
      rw [hk] at e
      obtain ⟨i1, i2, i3, i4⟩ := ih e hT'
      have hb : boxBl a = [] := by cases a <;> first | rfl | cases hk
      refine ⟨?_, i2, i3, fun b => ?_⟩
      · unfold OutsOk; rw [hk]; exact i1
      · rw [List.flatMap_cons, hb, List.nil_append]; exact i4 b
    | some q =>
      rw [hk] at e
      simp only [outsL, Option.bind_eq_some_iff, Option.map_eq_some_iff] at e
      obtain ⟨o, e1, os', e2, rfl⟩ := e
      obtain ⟨i1, i2, i3, i4⟩ := ih e2 hT'
      have hy : tm.getD k undef = y := hT 0 a y rfl rfl (by rw [hk]; rfl)
      have hAk := hA 0 a y rfl rfl
      have key : OutOk w a y o ∧ ∃ s, D[k]? = some s ∧ (∀ t ∈ o.2, t = .any ∨ t ∈ rootsO s ∧ t ∈ rootsOf s) ∧ ∀ b, (o.2.flatMap ownR).count b + (boxBl a).count b ≤ (ownBl s).count b := by
        unfold outOne at e1
        split at e1
        · rename_i b' ts' hq hD
          cases e1
          have hb : ∃ b ts, a = .box b ts := hkOf_box (by rw [hk]; exact congrArg some hq)
          obtain ⟨b, ts, rfl⟩ := hb
          have v1 : y = .pointer (some ⟨b.1, b.2, none⟩) := hAk.val D
          have v2 : tm.getD k undef = .pointer (some ⟨b'.1, b'.2, none⟩) := I.val k _ hD
          rw [hy, v1] at v2
          simp only [Value.pointer.injEq, Option.some.injEq, Addr.mk.injEq] at v2
          have hbb : b' = b := by obtain ⟨p1, p2⟩ := b; obtain ⟨p3, p4⟩ := b'; simp at v2; simp [v2.1, v2.2]
          subst hbb
          have hm := I.mem _ (List.mem_of_getElem? hD)
          exact ⟨⟨rfl, hm.2.2.1, hm.2.2.2⟩, _, hD, fun t ht => .inr ⟨ht, ht⟩, fun x => by simp only [ownBl, boxBl, List.count_cons, List.count_nil]; omega⟩
        · rename_i u hq hD
          cases e1
          have hb : ∃ u, a = .one u := hkOf_one (by rw [hk]; exact congrArg some hq)
          obtain ⟨u0, rfl⟩ := hb
          have v2 := I.val k _ hD
          rw [hy] at v2
          exact ⟨⟨⟨u, rfl, v2⟩, rfl⟩, _, hD, fun t ht => .inr ⟨by simpa [rootsO] using ht, by simpa [rootsOf] using ht⟩, fun x => by simp [ownBl, boxBl]⟩
        · rename_i hq hD
          cases e1
          have hb : ∃ u, a = .one u := hkOf_one (by rw [hk]; exact congrArg some hq)
          obtain ⟨u0, rfl⟩ := hb
          have v1 : VT u0 y := hAk.val D
          exact ⟨⟨⟨.any, rfl, v1.one⟩, rfl⟩, _, hD, fun t ht => .inl (by simpa using ht), fun x => by simp [ownBl, boxBl, ownR, T.isOwn]⟩
        · rename_i ts hq hD
          cases e1
          have hb : ∃ u, a = .agg u := hkOf_agg (by rw [hk]; exact congrArg some hq)
          obtain ⟨u0, rfl⟩ := hb
          have v2 := I.val k _ hD
          rw [hy] at v2
          exact ⟨⟨v2, rfl⟩, _, hD, fun t ht => .inr ⟨ht, ht⟩, fun x => by simp [ownBl, boxBl]⟩
        · cases e1
      obtain ⟨k1, s, k2, k3, k4⟩ := key
      refine ⟨?_, fun r hr => ?_, fun p hp => ?_, fun b => ?_⟩
      · unfold OutsOk; rw [hk]; exact ⟨o, os', rfl, k1, i1⟩
      · rcases List.mem_cons.1 hr with rfl | hr
        · exact ⟨s, List.mem_of_getElem? k2, k3⟩
        · exact i2 r hr
      · rcases List.mem_cons.1 hp with rfl | hp
        · exact lt_of_get k2
        · exact i3 p hp
      · have h1 := k4 b
        have h2 := i4 b
        simp only [resBl, List.flatMap_cons, List.map_cons, List.count_append, k2, Option.getD_some] at *
        omega

theorem fine_own {w : World} {t : DT} (h : t.fine = true) (ho : t.isOwn = true → OwnT w t) : OwnT w t := by
  cases t with
  | v x => exact .v x
  | any => exact .any
  | s k d z r => cases k <;> first | exact ho rfl | cases h
theorem Inv.endPtr {P : Program} {D : DSt} {tm : Array Value} {w0 w : World} {X : List Nat} (I : Inv ⟨w0, X⟩ D [] tm w) {ad : List DSl} {vs : List Value} (hA : ArgsOk w0 X ad vs)
    (hT : ∀ (i : Nat) (a : DSl) (y : Value), ad[i]? = some a → vs[i]? = some y → (hkOf a).isSome = true → tm.getD i undef = y) {fn : Func} {r : Bool × List DT} {t : Nat}
    (hpr : ptrRes mkD D fn.results.toList = some (r, t)) {os : DRes} (h0 : outsL D (homesOf 0 ad) = some os) (hfo : (os.all fun r => r.2.all T.fine) = true) (hnd : ((homesOf 0 ad).map (·.1) ++ [t]).Nodup) :
    ∃ v od rd, os ++ [r] = od ++ rd ∧ (results fn tm).run P w = .ok v w ∧ OutsOk w ad vs od ∧ RetOk w0 X w (ad.flatMap boxBl) od rd v := by
  unfold ptrRes at hpr
  split at hpr
  case h_2 => cases hpr
  rename_i t' hrs
  rw [Option.bind_eq_some_iff] at hpr
  obtain ⟨h', hch, hpr⟩ := hpr
  split at hpr
  case h_2 => cases hpr
  rename_i b ts hD
  split at hpr
  case isFalse => cases hpr
  rename_i hc
  cases hpr
  obtain ⟨hfine, hpos⟩ := hc
  have hfine' : ∀ u ∈ ts, u.fine = true := fun u hu => List.all_eq_true.1 hfine u hu
  obtain ⟨o1, o2, o3, o4⟩ := outs_ok I ad vs 0 hA.1 hA.2.1 h0 (fun i a y q1 q2 q3 => by rw [Nat.zero_add]; exact hT i a y q1 q2 q3)
  have hm := I.mem _ (List.mem_of_getElem? hD)
  have hv : tm.getD t' undef = .pointer (some ⟨b.1, b.2, none⟩) := by
    unfold cloHome at hch
    simp only at hch
    split at hch
    · rename_i b' ts' hb
      cases hch
      rw [hD] at hb
      cases hb
      exact I.val _ _ hD
    · rename_i h2 hb
      cases hch
      obtain ⟨b', ts', k1, k2⟩ := I.val _ _ hb
      rw [hD] at k1
      cases k1
      exact k2
    · cases hch
  have hrun : (results fn tm).run P w = .ok (retVal [tm.getD t' undef]) w := run_results fn tm w (by rw [hrs]; simp [List.mapM_cons, resSem])
  obtain ⟨hm1, hm2, ⟨c, e, f, l1, l2⟩, hfr⟩ := hm
  have hsz : b.2 + ts.length ≤ c.size := by
    have hlt : ts.length - 1 < ts.length := by omega
    obtain ⟨y, hy, _⟩ := l2 (ts.length - 1) ts[ts.length - 1] (List.getElem?_eq_getElem hlt)
    rcases Nat.lt_or_ge (b.2 + (ts.length - 1)) c.size with g | g
    · omega
    · rw [Array.getElem?_eq_none g] at hy; cases hy
  have row0 : ∀ (i : Nat) (row : List DT), ([ts] : List (List DT))[i]? = some row → i = 0 ∧ row = ts := by
    intro i row h
    cases i with
    | zero => simp at h; exact ⟨rfl, h.symm⟩
    | succ i => simp at h
  have hHold : Holds w (.s .own (mkD.ptr b) ts.length [ts]) := by
    refine .s _ _ _ _ rfl rfl c e f l1 (by simp [mkD]) (fun i row h => by rw [(row0 i row h).2]) (fun i row j u h1 h2 => ?_) fun i row j u h1 h2 => ?_
    · obtain ⟨rfl, rfl⟩ := row0 i row h1
      simpa [mkD] using l2 j u h2
    · obtain ⟨rfl, rfl⟩ := row0 i row h1
      exact hm1 u (List.mem_of_getElem? h2)
  have hOwn : OwnT w (.s .own (mkD.ptr b) ts.length [ts]) := by
    obtain ⟨lo, hi⟩ := f
    refine .s _ _ _ rfl rfl c e lo hi l1 (by simp [mkD]) (by simpa [mkD] using hsz) (fun x h1 h2 => hfr c e lo hi l1 x h1 (by simpa [mkD] using h2)) fun i row j u h1 h2 => ?_
    obtain ⟨rfl, rfl⟩ := row0 i row h1
    have hu := List.mem_of_getElem? h2
    exact fine_own (hfine' u hu) (hm2 u hu)
  have hbl : resBl ([(false, [.s .own (mkD.ptr b) ts.length [ts], .any])] : DRes) = ownBl (.box b ts) := by
    simp only [resBl, ownBl, List.flatMap_cons, List.flatMap_nil, List.append_nil, ownR, T.isOwn, if_true, bl_s, mkD]
    simp [← fine_bl hfine']
  have hsum := own_sum (((homesOf 0 ad).map fun p => (ownBl (D[p.1]?.getD .any), p.1)) ++ [(ownBl (.box b ts), t)]) D
    (by rw [List.map_append, List.map_map]; exact hnd) (fun x hx => by
      rcases List.mem_append.1 hx with hx | hx
      · obtain ⟨p, hp, rfl⟩ := List.mem_map.1 hx
        have := o3 p hp
        exact ⟨D[p.1], List.getElem?_eq_getElem this, fun b => by rw [List.getElem?_eq_getElem this]; exact Nat.le_refl _⟩
      · rw [List.mem_singleton] at hx; subst hx
        exact ⟨_, hD, fun b => Nat.le_refl _⟩)
  have htot : ∀ x, (resBl (os ++ [(false, [.s .own (mkD.ptr b) ts.length [ts], .any])])).count x + (ad.flatMap boxBl).count x ≤ cntD D x := by
    intro x
    have q1 := hsum x
    have q2 := o4 x
    rw [List.flatMap_append, List.count_append] at q1
    rw [resBl_append, List.count_append, hbl]
    simp only [List.flatMap_cons, List.flatMap_nil, List.append_nil] at q1
    omega
  refine ⟨_, os, _, rfl, hrun, o1, ⟨.inr (.inr ⟨_, _, _, rfl, hv⟩), ?_, ?_, ?_, ?_, ?_⟩⟩
  · intro r hr u hu
    rcases List.mem_append.1 hr with hr | hr
    · exact List.all_eq_true.1 (List.all_eq_true.1 hfo r hr) u hu
    · rw [List.mem_singleton] at hr; subst hr
      simp only [List.mem_cons, List.not_mem_nil, or_false] at hu
      rcases hu with rfl | rfl <;> rfl
  · intro r hr u hu
    rcases List.mem_append.1 hr with hr | hr
    · obtain ⟨s, q1, q2⟩ := o2 r hr
      exact (q2 u hu).elim (fun e => by subst e; exact .any) fun q => (I.mem s q1).1 u q.2
    · rw [List.mem_singleton] at hr; subst hr
      simp only [List.mem_cons, List.not_mem_nil, or_false] at hu
      rcases hu with rfl | rfl
      · exact hHold
      · exact .any
  · intro r hr u hu ho
    rcases List.mem_append.1 hr with hr | hr
    · obtain ⟨s, q1, q2⟩ := o2 r hr
      exact (q2 u hu).elim (fun e => by subst e; cases ho) fun q => (I.mem s q1).2.1 u q.1 ho
    · rw [List.mem_singleton] at hr; subst hr
      simp only [List.mem_cons, List.not_mem_nil, or_false] at hu
      rcases hu with rfl | rfl
      · exact hOwn
      · cases ho
  · intro x
    have q1 := htot x
    have q2 := I.once x
    omega
  · intro x hx
    have q1 := htot x
    have q3 : 0 < cntD D x := by
      have := List.count_pos_iff.2 hx
      omega
    exact I.bnd x (by omega)

theorem Inv.ends {P : Program} {tab : Tab} (ok : TabOk P tab) {D : DSt} {tm : Array Value} {w0 w : World} {X : List Nat} (I : Inv ⟨w0, X⟩ D [] tm w) {ad : List DSl} {vs : List Value} (hA : ArgsOk w0 X ad vs)
    (hT : ∀ (i : Nat) (a : DSl) (y : Value), ad[i]? = some a → vs[i]? = some y → (hkOf a).isSome = true → tm.getD i undef = y) {fn : Func} {all : DRes}
    (e : endG mkD tab D (homesOf 0 ad) fn.results.toList = some all) : ∃ v od rd, all = od ++ rd ∧ (results fn tm).run P w = .ok v w ∧ OutsOk w ad vs od ∧ RetOk w0 X w (ad.flatMap boxBl) od rd v := by
  unfold endG at e
  split at e
  · rename_i r t hpr
    rw [Option.bind_eq_some_iff] at e
    obtain ⟨os, h0, e⟩ := e
    split at e
    case isFalse => cases e
    rename_i hc
    cases e
    exact I.endPtr hA hT hpr h0 hc.1 hc.2
  rw [Option.bind_eq_some_iff] at e
  obtain ⟨os, h0, e⟩ := e
  rw [Option.bind_eq_some_iff] at e
  obtain ⟨l, h1, e⟩ := e
  split at e
  case isFalse => cases e
  rename_i hc
  cases e
  obtain ⟨hfo, hfine, hnd⟩ := hc
  obtain ⟨o1, o2, o3, o4⟩ := outs_ok I ad vs 0 hA.1 hA.2.1 h0 (fun i a y q1 q2 q3 => by rw [Nat.zero_add]; exact hT i a y q1 q2 q3)
  obtain ⟨ys, g1, g2, g3⟩ := I.resL ok h1
  have hget : ∀ x ∈ l, ∃ (i : Nat) (y : Value) (r : ResultVar), l[i]? = some x ∧ ys[i]? = some y ∧ ResOk P D tm w r x y := by
    intro x hx
    obtain ⟨i, hi⟩ := List.getElem?_of_mem hx
    have hlt : i < ys.length := by
      rw [g1]
      exact lt_of_get hi
    obtain ⟨r, hr⟩ := g3 i x ys[i] hi (List.getElem?_eq_getElem hlt)
    exact ⟨i, ys[i], r, hi, List.getElem?_eq_getElem hlt, hr⟩
  have hmem : ∀ r ∈ l.map (fun r => (r.1, r.2.1)), ∃ x ∈ l, r = (x.1, x.2.1) := fun r hr => by
    obtain ⟨x, hx, rfl⟩ := List.mem_map.1 hr
    exact ⟨x, hx, rfl⟩
  have hflat : resBl (l.map fun r => (r.1, r.2.1)) = l.flatMap fun r => r.2.1.flatMap ownR := by
    unfold resBl
    rw [List.flatMap_map]
  have hsum := own_sum (((homesOf 0 ad).map fun p => (ownBl (D[p.1]?.getD .any), p.1)) ++ (l.filter ownAny).map fun r => (r.2.1.flatMap ownR, r.2.2)) D
    (by rw [List.map_append, List.map_map, List.map_map]; exact hnd) (fun x hx => by
      rcases List.mem_append.1 hx with hx | hx
      · obtain ⟨p, hp, rfl⟩ := List.mem_map.1 hx
        have := o3 p hp
        exact ⟨D[p.1], List.getElem?_eq_getElem this, fun b => by rw [List.getElem?_eq_getElem this]; exact Nat.le_refl _⟩
      · obtain ⟨r, hr, rfl⟩ := List.mem_map.1 hx
        obtain ⟨i, y, r', _, _, hr'⟩ := hget r (List.mem_filter.1 hr).1
        exact hr'.home)
  have htot : ∀ b, (resBl (os ++ l.map fun r => (r.1, r.2.1))).count b + (ad.flatMap boxBl).count b ≤ cntD D b := by
    intro b
    have q1 := hsum b
    have q2 := o4 b
    rw [List.flatMap_append, List.count_append] at q1
    rw [resBl_append, List.count_append, hflat, own_filter]
    have q3 : ((l.filter ownAny).map fun r => (r.2.1.flatMap ownR, r.2.2)).flatMap (·.1) = (l.filter ownAny).flatMap fun r => r.2.1.flatMap ownR := by rw [List.flatMap_map]
    rw [q3] at q1
    omega
  refine ⟨_, os, _, rfl, run_results fn tm w g2, o1, ⟨?_, ?_, ?_, ?_, ?_, ?_⟩⟩
  · have hp : ∀ (i : Nat) (r : Bool × List DT) (y : Value), (l.map fun r => (r.1, r.2.1))[i]? = some r → ys[i]? = some y → VPart r y := by
      intro i r y hi hy
      rw [List.getElem?_map, Option.map_eq_some_iff] at hi
      obtain ⟨x, hx, rfl⟩ := hi
      obtain ⟨r', hr'⟩ := g3 i x y hx hy
      exact hr'.part
    match ys, l, g1, hp with
    | [y], [x], _, hp => exact .inl ⟨_, rfl, hp 0 _ y rfl rfl⟩
    | [], [], _, hp => exact .inr (.inl ⟨by simp, ⟨#[], rfl, rfl, fun i r v h => by simp at h⟩⟩)
    | y :: y' :: ys, x :: x' :: l, hl, hp =>
      refine .inr (.inl ⟨by simp, ⟨(y :: y' :: ys).toArray, rfl, by simp at hl ⊢; omega, fun i r v hi hv => hp i r v hi hv⟩⟩)
    | [], x :: l, hl, _ => simp at hl
    | y :: ys, [], hl, _ => simp at hl
    | [y], x :: x' :: l, hl, _ => simp at hl
    | y :: y' :: ys, [x], hl, _ => simp at hl
  · intro r hr t ht
    rcases List.mem_append.1 hr with hr | hr
    · exact List.all_eq_true.1 (List.all_eq_true.1 hfo r hr) t ht
    · obtain ⟨x, hx, rfl⟩ := hmem r hr
      exact List.all_eq_true.1 (List.all_eq_true.1 hfine x hx) t ht
  · intro r hr t ht
    rcases List.mem_append.1 hr with hr | hr
    · obtain ⟨s, q1, q2⟩ := o2 r hr
      exact (q2 t ht).elim (fun e => by subst e; exact .any) fun q => (I.mem s q1).1 t q.2
    · obtain ⟨x, hx, rfl⟩ := hmem r hr
      obtain ⟨i, y, r', _, _, hr'⟩ := hget x hx
      exact hr'.holds t ht
  · intro r hr t ht ho
    rcases List.mem_append.1 hr with hr | hr
    · obtain ⟨s, q1, q2⟩ := o2 r hr
      exact (q2 t ht).elim (fun e => by subst e; cases ho) fun q => (I.mem s q1).2.1 t q.1 ho
    · obtain ⟨x, hx, rfl⟩ := hmem r hr
      obtain ⟨i, y, r', _, _, hr'⟩ := hget x hx
      exact hr'.own t ht ho
  · intro b
    have q1 := htot b
    have q2 := I.once b
    omega
  · intro b hb
    have q1 := htot b
    have q3 : 0 < cntD D b := by
      have := List.count_pos_iff.2 hb
      omega
    exact I.bnd b (by omega)
theorem goneOuts {w w0 : World} {X : List Nat} : ∀ (ad : List DSl) (vs : List Value) (k : Nat), ad.length = vs.length →
    (∀ (i : Nat) (a : DSl) (y : Value), ad[i]? = some a → vs[i]? = some y → AOk w0 X a y) → ((homesOf k ad).all fun p => match p.2 with | .one => true | _ => false) = true →
    OutsOk w ad vs ((homesOf k ad).map fun _ => (false, [.any])) ∧ ad.flatMap boxBl = []
  | [], vs, k, _, _, _ => by
    refine ⟨?_, rfl⟩
    cases vs <;> exact rfl
  | a :: as, [], k, hl, _, _ => by simp at hl
  | a :: as, y :: ys, k, hl, hA, hh => by
    have ih := goneOuts (w := w) (w0 := w0) (X := X) as ys (k + 1) (by simpa using hl) fun i a' y' h1 h2 => hA (i + 1) a' y' (by simpa using h1) (by simpa using h2)
    unfold homesOf at hh ⊢
    cases hk : hkOf a with
    | none =>
      rw [hk] at hh
      obtain ⟨i1, i2⟩ := ih hh
      have hb : boxBl a = [] := by cases a <;> first | rfl | cases hk
      refine ⟨?_, by rw [List.flatMap_cons, hb, List.nil_append]; exact i2⟩
      unfold OutsOk; rw [hk]; exact i1
    | some q =>
      rw [hk] at hh
      simp only [List.all_cons, Bool.and_eq_true] at hh
      obtain ⟨i1, i2⟩ := ih hh.2
      have hq : q = .one := by
        have := hh.1
        cases q <;> first | rfl | cases this
      subst hq
      obtain ⟨u, rfl⟩ := hkOf_one hk
      have v1 : VT u y := (hA 0 _ y rfl rfl).val []
      refine ⟨?_, by rw [List.flatMap_cons]; exact i2⟩
      unfold OutsOk
      rw [hk]
      exact ⟨_, _, rfl, ⟨⟨.any, rfl, v1.one⟩, rfl⟩, i1⟩
theorem Inv.endsV {P : Program} {tab : Tab} (ok : TabOk P tab) {D : DSt} {tm : Array Value} {w0 w : World} {X : List Nat} (I : Inv ⟨w0, X⟩ D [] tm w) {ad : List DSl} {vs : List Value} (hA : ArgsOk w0 X ad vs) {fn : Func} {all : DRes}
    (e : endV mkD tab D (homesOf 0 ad) fn.results.toList = some all) : ∃ v od rd, all = od ++ rd ∧ (results fn tm).run P w = .ok v w ∧ OutsOk w ad vs od ∧ RetOk w0 X w (ad.flatMap boxBl) od rd v := by
  unfold endV at e
  split at e
  case isFalse => cases e
  rename_i hall
  rw [Option.map_eq_some_iff] at e
  obtain ⟨r, h1, rfl⟩ := e
  obtain ⟨v, od, rd, rfl, g1, g2, R⟩ := I.ends ok (ArgsOk.nil w0 X) (fun i a y h => by simp at h) h1
  have : od = [] := g2
  subst this
  obtain ⟨k1, k2⟩ := goneOuts (w := w) ad vs 0 hA.1 hA.2.1 hall
  refine ⟨v, _, rd, by rw [List.nil_append], g1, k1, ?_⟩
  rw [k2]
  have hz : ∀ (l : List (Nat × HK)), resBl (l.map fun _ => ((false, [T.any]) : Bool × List DT)) = [] := by
    intro l
    unfold resBl
    rw [List.flatMap_eq_nil_iff]
    intro r hr
    obtain ⟨_, _, rfl⟩ := List.mem_map.1 hr
    rfl
  have hr : ∀ b, (resBl ((homesOf 0 ad).map (fun _ => ((false, [T.any]) : Bool × List DT)) ++ rd)).count b = (resBl rd).count b := by
    intro b
    rw [resBl_append, hz, List.nil_append]
  have hm : ∀ r ∈ (homesOf 0 ad).map (fun _ => ((false, [T.any]) : Bool × List DT)) ++ rd, (∀ t ∈ r.2, t = .any) ∨ r ∈ [] ++ rd := by
    intro r hr
    rcases List.mem_append.1 hr with hr | hr
    · obtain ⟨_, _, rfl⟩ := List.mem_map.1 hr
      exact .inl fun t ht => by simpa using ht
    · exact .inr (by simpa using hr)
  refine ⟨R.val, fun r hr t ht => ?_, fun r hr t ht => ?_, fun r hr t ht ho => ?_, fun b => ?_, fun b hb => ?_⟩
  · rcases hm r hr with q | q
    · rw [q t ht]; rfl
    · exact R.fine r q t ht
  · rcases hm r hr with q | q
    · rw [q t ht]; exact .any
    · exact R.holds r q t ht
  · rcases hm r hr with q | q
    · rw [q t ht] at ho; cases ho
    · exact R.own r q t ht ho
  · rw [hr]
    have := R.once b
    rw [List.nil_append] at this
    exact this
  · refine R.new b ?_
    rw [List.nil_append]
    exact List.count_pos_iff.1 (by rw [← hr]; exact List.count_pos_iff.2 hb)
end Go.Proofs.Ytalapefcbodhaaa.Am
namespace Go.Proofs.Ytalapefcbodhaaa.Am
set_option linter.unusedVariables false
set_option linter.unusedSimpArgs false
open Go

def endOf (tab : Tab) (gv : Bool) (fn : Func) (hs : List (Nat × HK)) : Exit → US → Option URes
  | .normal, D => if gv = true then endV mkU tab D hs fn.results.toList else endG mkU tab D hs fn.results.toList
  | .ret, D => if gv = true then endV mkU tab D hs fn.results.toList else endG mkU tab D hs fn.results.toList
  | _, _ => none
noncomputable def runF (tab : Tab) (fns : FuncId → Option Func) (hints : FuncId → Hint) (orc : Sem1 → Sem1) : Nat → Sem1
  | 0 => fun _ _ => none
  | k + 1 => fun f as =>
    match orc (runF tab fns hints orc k) f as with
    | some r => some r
    | none =>
      match fns f with
      | some fn =>
        match fn.body with
        | some c => if (tab.gv.contains f || fixB ((homesOf 0 as).map (·.1)) c) = true then runC tab fns (runF tab fns hints orc k) (hints f) k c (as ++ List.replicate (fn.ntmps - as.length) .any) (endOf tab (tab.gv.contains f) fn (homesOf 0 as)) else none
        | none => none
      | none => none

theorem Inv.enter {w : World} {X : List Nat} {ad : List DSl} {vs : List Value} (h : ArgsOk w X ad vs) (n : Nat) : Inv ⟨w, X⟩ (ad ++ List.replicate n .any) [] (vs.toArray ++ Array.replicate n undef) w := by
  obtain ⟨hl, ha, hone⟩ := h
  have hget : ∀ s ∈ ad ++ List.replicate n (.any : DSl), s = .any ∨ ∃ (i : Nat) (y : Value), ad[i]? = some s ∧ vs[i]? = some y ∧ AOk w X s y := by
    intro s hs
    rcases List.mem_append.1 hs with hs | hs
    · right
      obtain ⟨i, hi⟩ := List.getElem?_of_mem hs
      have hlt : i < vs.length := by
        rw [← hl]; exact lt_of_get hi
      exact ⟨i, vs[i], hi, List.getElem?_eq_getElem hlt, ha i s _ hi (List.getElem?_eq_getElem hlt)⟩
    · left; exact List.eq_of_mem_replicate hs
  have hown : ∀ b, cntD (ad ++ List.replicate n (.any : DSl)) b = (ad.flatMap ownBl).count b := by
    intro b
    unfold cntD
    rw [List.flatMap_append, List.count_append]
    have : (List.replicate n (.any : DSl)).flatMap ownBl = [] := by
      rw [List.flatMap_eq_nil_iff]
      intro s hs
      rw [List.eq_of_mem_replicate hs]; rfl
    rw [this]; rfl
  refine ⟨by simp [hl], fun t s hs => ?_, fun s hs => ?_, fun s hs => ?_, fun p hp => (by cases hp), fun b => by rw [hown, cntP_nil]; exact hone b, fun b hb => ?_, ⟨rfl, rfl, rfl, Nat.le_refl _, fun b _ => rfl⟩⟩
  · rcases Nat.lt_or_ge t ad.length with g | g
    · rw [List.getElem?_append_left g] at hs
      have hlt : t < vs.length := by omega
      have := (ha t s vs[t] hs (List.getElem?_eq_getElem hlt)).val (ad ++ List.replicate n .any)
      have e : (vs.toArray ++ Array.replicate n undef).getD t undef = vs[t] := by
        rw [Array.getD_eq_getD_getElem?, Array.getElem?_append_left (by simpa using hlt)]
        simp [hlt]
      rw [e]; exact this
    · rw [List.getElem?_append_right g] at hs
      have := List.mem_of_getElem? hs
      rw [List.eq_of_mem_replicate this]; trivial
  · rcases hget s hs with rfl | ⟨i, y, _, _, h⟩
    · exact ⟨fun u hu => by simp [rootsOf] at hu, fun u hu => by simp [rootsO] at hu, trivial⟩
    · exact h.mem
  · rcases hget s hs with rfl | ⟨i, y, _, _, h⟩
    · exact fun u hu => by simp [rootsOf] at hu
    · exact h.kind _
  · rw [hown, cntP_nil, Nat.add_zero] at hb
    obtain ⟨s, hs, hb⟩ := List.mem_flatMap.1 (List.count_pos_iff.1 hb)
    rcases hget s (List.mem_append.2 (.inl hs)) with rfl | ⟨i, y, _, _, h⟩
    · simp [ownBl] at hb
    · have := h.own b hb
      exact ⟨.inr this.1, this.2⟩
theorem homesOf_mem : ∀ (ad : List DSl) (k i : Nat) (a : DSl), ad[i]? = some a → (hkOf a).isSome = true → k + i ∈ (homesOf k ad).map (·.1)
  | [], k, i, a, h, _ => by simp at h
  | a :: as, k, 0, a', h, hk => by
    simp at h; subst h
    unfold homesOf
    cases hq : hkOf a with
    | none => rw [hq] at hk; cases hk
    | some q => simp
  | a :: as, k, i + 1, a', h, hk => by
    have := homesOf_mem as (k + 1) i a' (by simpa using h) hk
    unfold homesOf
    rw [show k + (i + 1) = k + 1 + i by omega]
    cases hq : hkOf a with
    | none => exact this
    | some q => exact List.mem_cons_of_mem _ this

theorem runF_sound {P : Program} {tab : Tab} (ok : TabOk P tab) {fns : FuncId → Option Func} (hf : FnsOk P fns) (hints : FuncId → Hint) {orc : Sem1 → Sem1} (ho : ∀ C, CallsOk P C → CallsOk P (orc C)) : ∀ k, CallsOk P (runF tab fns hints orc k)
  | 0 => fun f as rs h => by cases h
  | k + 1 => fun f as rs h w X ad vs he hA => by
    simp only [runF] at h
    split at h
    · rename_i r hr
      cases h
      exact ho _ (runF_sound ok hf hints ho k) f as _ hr w X ad vs he hA
    · split at h
      case h_2 => cases h
      rename_i fn hfn
      split at h
      case h_2 => cases h
      rename_i c hc
      split at h
      case isFalse => cases h
      rename_i hfix
      obtain ⟨p1, p2, p3⟩ := hf f fn hfn
      have hl : as.length = vs.length := by rw [← he, List.length_map]; exact hA.1
      have hh : homesOf 0 as = homesOf 0 ad := by rw [← he, er_homesOf]
      have he' : as ++ List.replicate (fn.ntmps - as.length) (.any : Sl Unit Unit) = erD (ad ++ List.replicate (fn.ntmps - vs.length) .any) := by
        rw [hl, ← he]
        simp [erD, Sl.er]
      rw [he', hh] at h
      rw [hh] at hfix
      refine calls_of_wp p1 hc ?_
      have I := Inv.enter hA (fn.ntmps - vs.length)
      have hsz : vs.toArray.size = vs.length := by simp
      have hT : ∀ o ∈ opsIn c, ∀ (a : Act) (y : Value), (a.defers = [] ∧ (tab.gv.contains f = false → ∀ (i : Nat) (s : DSl) (v : Value), ad[i]? = some s → vs[i]? = some v → (hkOf s).isSome = true → a.tmps.getD i undef = v)) →
          ((a.put o.dst y).defers = [] ∧ (tab.gv.contains f = false → ∀ (i : Nat) (s : DSl) (v : Value), ad[i]? = some s → vs[i]? = some v → (hkOf s).isSome = true → (a.put o.dst y).tmps.getD i undef = v)) := by
        rintro o ho a y ⟨t1, t2⟩
        refine ⟨by unfold Act.put; split <;> exact t1, fun hgv i s v q1 q2 q3 => ?_⟩
        rw [hgv, Bool.false_or] at hfix
        cases hd : o.dst with
        | none => exact t2 hgv i s v q1 q2 q3
        | some t =>
          have hi := homesOf_mem ad 0 i s q1 q3
          rw [Nat.zero_add] at hi
          have hne : t ≠ i := by
            rintro rfl
            unfold fixB at hfix
            rw [Bool.or_eq_true] at hfix
            rcases hfix with hfix | hfix
            · rw [List.isEmpty_iff] at hfix
              rw [hfix] at hi; cases hi
            · have := List.all_eq_true.1 hfix o ho
              rw [hd] at this
              simp only [Bool.not_eq_true', List.contains_eq_mem, decide_eq_false_iff_not] at this
              exact this hi
          show (a.tmps.setIfInBounds t y).getD i undef = v
          rw [Array.getD_eq_getD_getElem?, Array.getElem?_setIfInBounds_ne hne, ← Array.getD_eq_getD_getElem?]
          exact t2 hgv i s v q1 q2 q3
      have hT0 : ∀ (i : Nat) (s : DSl) (v : Value), ad[i]? = some s → vs[i]? = some v → (hkOf s).isSome = true → (vs.toArray ++ Array.replicate (fn.ntmps - vs.toArray.size) undef).getD i undef = v := by
        intro i s v _ q2 _
        have hlt := lt_of_get q2
        rw [Array.getD_eq_getD_getElem?, Array.getElem?_append_left (by simpa using hlt)]
        simp [q2]
      refine runC_sound (T := fun a => a.defers = [] ∧ (tab.gv.contains f = false → ∀ (i : Nat) (s : DSl) (v : Value), ad[i]? = some s → vs[i]? = some v → (hkOf s).isSome = true → a.tmps.getD i undef = v)) (r := rs) ok hf (runF_sound ok hf hints ho k) c hT (fun e D' a' w' h1 h2 h3 => ?_)
        (a := { tmps := vs.toArray ++ Array.replicate (fn.ntmps - vs.toArray.size) undef, defers := [] }) (by rw [hsz]; exact I) ⟨rfl, fun _ => hT0⟩ h
      have key : (if tab.gv.contains f = true then endV mkU tab (erD D') (homesOf 0 ad) fn.results.toList else endG mkU tab (erD D') (homesOf 0 ad) fn.results.toList) = some rs → a'.defers = [] ∧ ∃ v, (Go.results fn a'.tmps).run P w' = .ok v w' ∧ ∃ v' od rd, Ending.returned v = .returned v' ∧ GrewH X w w' ∧ erR (od ++ rd) = rs ∧ OutsOk w' ad vs od ∧ RetOk w X w' (ad.flatMap boxBl) od rd v' := by
        intro h1
        split at h1
        · rw [er_endV] at h1
          obtain ⟨all, h1', rfl⟩ := Option.map_eq_some_iff.1 h1
          obtain ⟨v, od, rd, rfl, g1, g2, g3⟩ := h3.endsV ok hA h1'
          exact ⟨h2.1, v, g1, v, od, rd, rfl, ⟨h3.frame.os, h3.frame.tape, h3.frame.output, h3.frame.size, fun b hb hn => h3.frame.same b ⟨hb, hn⟩⟩, rfl, g2, g3⟩
        rename_i hgv
        rw [Bool.not_eq_true] at hgv
        rw [er_endG] at h1
        obtain ⟨all, h1', rfl⟩ := Option.map_eq_some_iff.1 h1
        obtain ⟨v, od, rd, rfl, g1, g2, g3⟩ := h3.ends ok hA (h2.2 hgv) h1'
        exact ⟨h2.1, v, g1, v, od, rd, rfl, ⟨h3.frame.os, h3.frame.tape, h3.frame.output, h3.frame.size, fun b hb hn => h3.frame.same b ⟨hb, hn⟩⟩, rfl, g2, g3⟩
      cases e with
      | normal => exact key h1
      | ret => exact key h1
      | _ => cases h1
end Go.Proofs.Ytalapefcbodhaaa.Am
