/- An abstract machine over trees, and that its steps are sound, a part. Conditions: none. -/
import Derived.Test.YtalapefcbodhaaaAma
import Derived.Laws.MakeOwn
import Derived.Laws.Tables
import Derived.Deep.AppendSrc
import Derived.Laws.BytesArg
import Derived.Laws.IdiomStrings
namespace Go.Proofs.Ytalapefcbodhaaa.Am
set_option linter.unusedVariables false
set_option linter.unusedSimpArgs false
open Go

structure Fresh (δ β : Type) where
  box : β
  row : Nat → δ
  app : δ → Nat → Nat → Nat → δ
  str : Nat → Nat → δ
def frD (w : World) : Fresh Dec (Nat × Nat) :=
  ⟨(w.heap.size, 0), fun cap => ⟨w.heap.size, 0, cap, false, none⟩, fun d n m e => if n + m ≤ d.cap then d else ⟨w.heap.size, 0, grownCap w (n + m) d.cap e, false, none⟩, fun n e => ⟨w.heap.size, 0, grownCap w n 0 e, false, none⟩⟩
def frU : Fresh Unit Unit := ⟨(), fun _ => (), fun _ _ _ _ => (), fun _ _ => ()⟩

section
variable {δ β : Type}
def allocSl (M : Mk δ β) (F : Fresh δ β) (tab : Tab) (D : St δ β) (dst : Option Nat) (t : Nat) : Option (St δ β) :=
  match tab.ti t, dst with
  | some ti, some d => if d < D.length then some (putSl D (some d) (.box F.box (ti.zero.map (T.inj M.nil)))) else none
  | _, _ => none
def boxSl (M : Mk δ β) (F : Fresh δ β) (D : St δ β) (dst : Option Nat) (x : Operand) (tk : Bool) : Option (St δ β) :=
  match cellsOf M D x tk, dst with
  | some (_, us, D1), some d => if d < D1.length then some (putSl D1 (some d) (.box F.box us)) else none
  | _, _ => none
def extractSl (D : St δ β) (dst : Option Nat) (x : Operand) (i : Nat) : Option (St δ β) :=
  match x, dst with
  | .tmp t, some d =>
    match D[t]? with
    | some (.tup rs) =>
      match rs[i]? with
      | some (g, ts) =>
        if d < D.length ∧ ts.all T.noLent then
          (slOf g ts).map fun s => putSl (D.set t (.tup (rs.set i (g, ts.map T.hole)))) (some d) s
        else none
      | none => none
    | _ => none
  | _, _ => none
def cloHome (D : St δ β) (x : Operand) : Option Nat :=
  match x with
  | .tmp t => (match D[t]? with | some (.box _ _) => some t | some (.pb h 0) => some h | _ => none)
  | _ => none
def cloHomes (D : St δ β) : List Operand → Option (List Nat)
  | [] => some []
  | x :: xs => (cloHome D x).bind fun h => (cloHomes D xs).map fun hs => h :: hs
def cloSl (D : St δ β) (f : FuncId) (xs : List Operand) : Option (Sl δ β) := (cloHomes D xs).map fun hs => .clo (.fn f) hs
end

variable {P : Program} {tab : Tab}
theorem run_newRow' (w : World) (e : TypeId) (cs : Array Value) : (newRow e cs).run P w = .ok ⟨w.heap.size, 0, none⟩ (w.alloc (.cells cs e)) := by
  simp [newRow]

theorem alloc_sound (ok : TabOk P tab) {cx : Cx} {D D' : DSt} {a : Act} {w : World} (I : Inv cx D [] a.tmps w) {dst : Option Nat} {t : Nat} (e : allocSl mkD (frD w) tab D dst t = some D') :
    ∃ y w', (Instr.alloc t true (.tuple #[])).run P w = .ok y w' ∧ Inv cx D' [] (a.put dst y).tmps w' := by
  unfold allocSl at e
  split at e
  case h_2 => cases e
  rename_i ti d hti
  split at e
  case isFalse => cases e
  rename_i hd
  cases e
  obtain ⟨z, h1, h2, h3⟩ := ti_zero (Tab.ok ok hti) w
  have G := inj_zero (P := P) (t := t) (w := w) (cx := cx) (D := D) (ys := z.cells.toList) h3
  rw [← h2] at G
  have hI := I.newBox (a := a) (e := t) G hd
  refine ⟨_, _, ?_, hI⟩
  simp [Instr.alloc, h1, newVar, run_newRow']

theorem box_sound {cx : Cx} {D D' : DSt} {a : Act} {w : World} (I : Inv cx D [] a.tmps w) {dst : Option Nat} {t : Nat} {x : Operand} {tk : Bool} (e : boxSl mkD (frD w) D dst x tk = some D') :
    ∃ y w', (Instr.box t (a.eval x)).run P w = .ok y w' ∧ Inv cx D' [] (a.put dst y).tmps w' := by
  unfold boxSl at e
  split at e
  case h_2 => cases e
  rename_i g us D1 d hc
  split at e
  case isFalse => cases e
  rename_i hd
  cases e
  obtain ⟨ys, Pd, I1, G, hv⟩ := I.cellsOf hc
  have hcells : (a.eval x).cells = ys.toArray := by
    cases g with
    | true => simp only [ValIs, if_true] at hv; rw [hv]; rfl
    | false =>
      have : ys = [a.eval x] := by simpa [ValIs] using hv
      have h1 := G.v.cells1 _ (by rw [this]; simp : a.eval x ∈ ys)
      rw [this]
      cases hx : a.eval x <;> first | rfl | (rw [hx] at h1; simp [Value.oneCell'] at h1)
  refine ⟨_, _, ?_, I1.newBox (e := t) G hd⟩
  simp [Instr.box, newVar, run_newRow', hcells]
section
variable {δ β : Type}
def buildCells (M : Mk δ β) (D : St δ β) (pl : List (Nat × Nat)) : List (Nat × Operand) → List (T δ) → Option (List (T δ))
  | [], ts => some ts
  | (i, x) :: r, ts =>
    match pl[i]?, cellsCopy M D x with
    | some (off, size), some (_, us) => if us.length = size ∧ off + us.length ≤ ts.length then buildCells M D pl r (spliceAt ts off us) else none
    | _, _ => none
def buildSl (M : Mk δ β) (tab : Tab) (D : St δ β) (t : Nat) (parts : List (Nat × Operand)) : Option (Sl δ β) :=
  match tab.ti t, tab.pl t with
  | some ti, some pl => (buildCells M D pl parts (ti.zero.map (T.inj M.nil))).map fun ts => .agg ts
  | _, _ => none
end
theorem Got.splice {cx : Cx} {D : DSt} {w : World} {ts us : List DT} {xs ys : List Value} (G : Got cx D w [] ts xs) (H : Got cx D w [] us ys) {off : Nat} (hl : off + us.length ≤ ts.length) :
    Got cx D w [] (spliceAt ts off us) (spliceAt xs off ys) := by
  refine ⟨G.v.splice H.v hl, fun t ht => ?_, fun t ht => ?_, fun t ht => ?_, fun b => ?_⟩
  · rcases mem_splice ht with h | h
    · exact G.holds t h
    · exact H.holds t h
  · rcases mem_splice ht with h | h
    · exact G.own t h
    · exact H.own t h
  · rcases mem_splice ht with h | h
    · exact G.kind t h
    · exact H.kind t h
  · have h1 := count_splice ownR ts us off b
    have h2 := G.cnt b
    have h3 := H.cnt b
    rw [cntP_nil] at *
    omega
theorem buildCells_sound {cx : Cx} {D : DSt} {a : Act} {w : World} (I : Inv cx D [] a.tmps w) (pl : List (Nat × Nat)) : ∀ (parts : List (Nat × Operand)) {ts ts' : List DT} {xs : List Value}, Got cx D w [] ts xs →
    buildCells mkD D pl parts ts = some ts' → ∃ ys, Instr.fill (pl.toArray[·]?) xs.toArray (parts.map fun p => (p.1, a.eval p.2)) = some ys.toArray ∧ Got cx D w [] ts' ys
  | [], ts, ts', xs, G, e => by cases e; exact ⟨xs, rfl, G⟩
  | (i, x) :: r, ts, ts', xs, G, e => by
    simp only [buildCells] at e
    split at e
    case h_2 => cases e
    rename_i off size g us hp hc
    split at e
    case isFalse => cases e
    rename_i hl
    obtain ⟨ys, H, hv⟩ := I.cellsCopy hc
    have hcells : (a.eval x).cells = ys.toArray := by
      cases g with
      | true => simp only [ValIs, if_true] at hv; rw [hv]; rfl
      | false =>
        have : ys = [a.eval x] := by simpa [ValIs] using hv
        have h1 := H.v.cells1 _ (by rw [this]; simp : a.eval x ∈ ys)
        rw [this]
        cases hx : a.eval x <;> first | rfl | (rw [hx] at h1; simp [Value.oneCell'] at h1)
    obtain ⟨zs, h1, h2⟩ := buildCells_sound I pl r (G.splice H hl.2) e
    refine ⟨zs, ?_, h2⟩
    have e1 := G.v.1
    have e2 := H.v.1
    have hp' : pl.toArray[i]? = some (off, size) := by simpa using hp
    simp only [List.map_cons, Instr.fill, hp', hcells]
    rw [if_neg (by simp; omega)]
    rw [foldl_set_array ys.toArray off xs.toArray (by simp; omega)]
    simpa using h1
theorem build_sound {P : Program} {tab : Tab} (ok : TabOk P tab) {cx : Cx} {D : DSt} {a : Act} {w : World} (I : Inv cx D [] a.tmps w) {t : Nat} {parts : Array (Nat × Operand)} {s : DSl} (e : buildSl mkD tab D t parts.toList = some s) :
    ∃ y, (Instr.build t (parts.map fun (i, x) => (i, a.eval x))).run P w = .ok y w ∧ Tells cx D w s y := by
  unfold buildSl at e
  split at e
  case h_2 => cases e
  rename_i ti pl hti hpl
  rw [Option.map_eq_some_iff] at e
  obtain ⟨ts, h1, rfl⟩ := e
  obtain ⟨i, d, z, g1, g2, g3, g4, g5, g6, g7, g8⟩ := ti_info (Tab.ok ok hti)
  have G := inj_zero (P := P) (t := t) (w := w) (cx := cx) (D := D) (ys := z.cells.toList) g8
  rw [← g6] at G
  obtain ⟨ys, h2, H⟩ := buildCells_sound I pl parts.toList G h1
  refine ⟨.agg ys.toArray, run_build w t _ _ ?_, ⟨⟨ys.toArray, rfl, by simpa using H.v⟩, ⟨H.holds, H.own, trivial⟩, H.kind, ?_⟩⟩
  · have hp := Tab.okPl ok hpl
    unfold placesOf at hp
    split at hp
    · rename_i fs hu
      unfold Program.built
      rw [g1, hu]
      simp only [g3, hp]
      simpa using h2
    · cases hp
  · have : ∀ b, (ts.flatMap ownR).count b = 0 := fun b => by have := H.cnt b; rw [cntP_nil] at this; omega
    show ts.flatMap ownR = []
    rw [List.eq_nil_iff_forall_not_mem]
    intro b hb
    have := this b
    have := List.count_pos_iff.2 hb
    omega
theorem Inv.swap {cx : Cx} {D : DSt} {P Q : List (DT × Value)} {tm : Array Value} {w : World} (I : Inv cx D P tm w) {t : Nat} {s₀ s : DSl} (hs₀ : D[t]? = some s₀) (hq : ∀ s' ∈ D, ¬ refs t s') (hr : ¬ refs t s)
    (hv : VS D s (tm.getD t undef)) (hm : MemS w s) (hk : KindS cx D s)
    (hp : ∀ p ∈ Q, VT p.1 p.2 ∧ Holds w p.1 ∧ (p.1.isOwn = true → OwnT w p.1) ∧ (p.1.isOwn = false → ∀ x ∈ bl p.1, cx.far x))
    (ho : ∀ b, (ownBl s).count b + cntP Q b ≤ (ownBl s₀).count b + cntP P b) : Inv cx (D.set t s) Q tm w := by
  have hlt : t < D.length := by
    rcases Nat.lt_or_ge t D.length with g | g
    · exact g
    · rw [List.getElem?_eq_none g] at hs₀; cases hs₀
  have hall : ∀ b, cntD (D.set t s) b + cntP Q b ≤ cntD D b + cntP P b := by
    intro b
    have h1 := count_set ownBl s b D t s₀ hs₀
    have h2 := ho b
    unfold cntD
    omega
  refine ⟨by have := I.size; simpa using this, fun u s' hs => ?_, fun s' hs => ?_, fun s' hs => ?_, hp, fun b => ?_, fun b hb => ?_, I.frame⟩
  · by_cases e : u = t
    · subst e
      rw [List.getElem?_set_self hlt] at hs
      cases hs
      exact VS_set hr hv
    · rw [List.getElem?_set_ne (fun h => e h.symm)] at hs
      exact VS_set (hq s' (List.mem_of_getElem? hs)) (I.val u s' hs)
  · rcases List.mem_or_eq_of_mem_set hs with h | rfl
    · exact I.mem s' h
    · exact hm
  · rcases List.mem_or_eq_of_mem_set hs with h | rfl
    · exact KindS_set (hq s' h) (I.kind s' h)
    · exact KindS_set hr hk
  · have h1 := hall b
    have h2 := I.once b
    omega
  · have h1 := hall b
    exact I.bnd b (by omega)

theorem Inv.tup_refs {cx : Cx} {D : DSt} {P : List (DT × Value)} {tm : Array Value} {w : World} (I : Inv cx D P tm w) {t : Nat} {rs : List (Bool × List DT)} (ha : D[t]? = some (.tup rs)) {s : DSl} {y : Value} (hv : VS D s y) (hk : KindS cx D s) : ¬ refs t s := by
  have hc : ∀ c, cellAt D t c = none := fun c => by simp [cellAt, ha, homeCells]
  have hroot : ∀ (us : List DT), (∀ u ∈ us, KindT cx D u) → ¬ ∃ u ∈ us, ∃ c fl d z r, u = .s (.lent t c fl) d z r := by
    rintro us h ⟨u, hu, c, fl, d, z, r, rfl⟩
    obtain ⟨t', h1, _⟩ := h _ hu
    rw [hc] at h1; cases h1
  intro hr
  cases s with
  | any => exact hr
  | one u => obtain ⟨c, fl, d, z, r, rfl⟩ := hr; exact hroot [_] (fun u hu => hk u (by simpa [rootsOf] using hu)) ⟨_, List.mem_singleton_self _, c, fl, d, z, r, rfl⟩
  | agg ts => exact hroot ts hk hr
  | box b ts => exact hroot ts hk hr
  | al h c st lo len =>
    simp only [refs] at hr; subst hr
    obtain ⟨d, z, n, a, ⟨t', h1, _⟩, _⟩ := hv
    rw [hc] at h1; cases h1
  | pe h c st i off =>
    simp only [refs] at hr; subst hr
    obtain ⟨d, z, n, ⟨t', h1, _⟩, _⟩ := hv
    rw [hc] at h1; cases h1
  | pb h off =>
    simp only [refs] at hr; subst hr
    obtain ⟨b, ts, h1, _⟩ := hv
    rw [ha] at h1; cases h1
  | im k b ts off =>
    cases k with
    | own => exact hr
    | far => exact hr
    | lent h c fl =>
      simp only [refs] at hr; subst hr
      obtain ⟨t', h1, _⟩ := hk
      rw [hc] at h1; cases h1
  | fni f caps => exact hr
  | clo f hs =>
    obtain ⟨bs, h1, h2, _⟩ := hv
    obtain ⟨i, hi⟩ := List.getElem?_of_mem hr
    obtain ⟨b, hb⟩ : ∃ b, bs[i]? = some b := by
      have : i < hs.length := by
        rcases Nat.lt_or_ge i hs.length with g | g
        · exact g
        · rw [List.getElem?_eq_none g] at hi; cases hi
      exact ⟨_, List.getElem?_eq_getElem (by omega)⟩
    obtain ⟨ts, h3⟩ := h2 i t b hi hb
    rw [ha] at h3; cases h3
  | tup rs =>
    obtain ⟨p, hp, u, hu, c, fl, d, z, r, e⟩ := hr
    exact hroot (rootsOf (.tup rs)) hk ⟨u, List.mem_flatMap.2 ⟨p, hp, hu⟩, c, fl, d, z, r, e⟩
theorem hole_VT {t : DT} {y : Value} (h : VT t y) : VT t.hole y := by
  cases t with
  | s k d z r => cases k <;> first | exact h | exact h.one
  | _ => exact h
theorem hole_not (t : DT) : t.hole.isOwn = false := by
  cases t with
  | s k d z r => cases k <;> rfl
  | _ => rfl
theorem hole_cases (t : DT) : t.hole = t ∨ t.hole = .any := by
  cases t with
  | s k d z r => cases k <;> first | (left; rfl) | (right; rfl)
  | _ => left; rfl

theorem KindT_noLent {cx : Cx} {D D' : DSt} {t : DT} (hl : t.noLent = true) (h : KindT cx D t) : KindT cx D' t := by
  cases t with
  | s k d z r => cases k <;> first | exact h | cases hl
  | _ => trivial
theorem extract_sound {cx : Cx} {D D' : DSt} {a : Act} {w : World} (I : Inv cx D [] a.tmps w) {dst : Option Nat} {x : Operand} {i : Nat} (e : extractSl D dst x i = some D') :
    ∃ y, (Instr.extract (a.eval x) i).run P w = .ok y w ∧ Inv cx D' [] (a.put dst y).tmps w := by
  unfold extractSl at e
  split at e
  case h_2 => cases e
  rename_i t d
  split at e
  case h_2 => cases e
  rename_i rs hD
  split at e
  case h_2 => cases e
  rename_i g ts hi
  split at e
  case isFalse => cases e
  rename_i hc
  rw [Option.map_eq_some_iff] at e
  obtain ⟨s, hs, rfl⟩ := e
  obtain ⟨hd, hnl⟩ := hc
  rw [List.all_eq_true] at hnl
  have hmem := List.mem_of_getElem? hD
  obtain ⟨vs, hy, hlen, hpart⟩ := I.val t _ hD
  have hm := I.mem _ hmem
  have hk : ∀ u ∈ rootsOf (.tup rs : DSl), KindT cx D u := I.kind _ hmem
  have hlt : i < rs.length := by
    rcases Nat.lt_or_ge i rs.length with q | q
    · exact q
    · rw [List.getElem?_eq_none q] at hi; cases hi
  have hvi : vs.toList[i]? = some vs.toList[i] := List.getElem?_eq_getElem (by omega)
  have hp := hpart i _ _ hi hvi
  obtain ⟨ys, hv, hvc⟩ : ∃ ys, ValIs g vs.toList[i] ys ∧ VCells ts ys := by
    unfold VPart at hp
    cases g with
    | true =>
      simp only [if_true] at hp
      obtain ⟨cs, h1, h2⟩ := hp
      exact ⟨cs.toList, by simpa [ValIs] using h1, h2⟩
    | false =>
      simp only [Bool.false_eq_true, if_false] at hp
      obtain ⟨t', h1, h2⟩ := hp
      subst h1
      exact ⟨[vs.toList[i]], by simp [ValIs], .one h2⟩
  have hts : ∀ u ∈ ts, u ∈ rootsOf (.tup rs : DSl) := fun u hu => List.mem_flatMap.2 ⟨_, List.mem_of_getElem? hi, hu⟩
  have hget : ∀ (j : Nat) (r : Bool × List DT), (rs.set i (g, ts.map T.hole))[j]? = some r → (j = i ∧ r = (g, ts.map T.hole)) ∨ (j ≠ i ∧ rs[j]? = some r) := by
    intro j r hj
    by_cases e : j = i
    · subst e; rw [List.getElem?_set_self hlt] at hj; cases hj; exact .inl ⟨rfl, rfl⟩
    · rw [List.getElem?_set_ne (fun h => e h.symm)] at hj; exact .inr ⟨e, hj⟩
  have hroots : ∀ u ∈ (rs.set i (g, ts.map T.hole)).flatMap (·.2), u ∈ rootsOf (.tup rs : DSl) ∨ u = .any := by
    intro u hu
    obtain ⟨r, hr, hu⟩ := List.mem_flatMap.1 hu
    obtain ⟨j, hj⟩ := List.getElem?_of_mem hr
    rcases hget j r hj with ⟨_, rfl⟩ | ⟨_, hj⟩
    · obtain ⟨v, hv', rfl⟩ := List.mem_map.1 hu
      rcases hole_cases v with q | q
      · rw [q]; exact .inl (hts v hv')
      · exact .inr q
    · exact .inl (List.mem_flatMap.2 ⟨r, List.mem_of_getElem? hj, hu⟩)
  have hV : VS D (.tup (rs.set i (g, ts.map T.hole))) (a.tmps.getD t undef) := by
    refine ⟨vs, hy, by simpa using hlen, fun j r v hj hv' => ?_⟩
    rcases hget j r hj with ⟨rfl, rfl⟩ | ⟨_, hj⟩
    · have := hpart j _ v hi hv'
      unfold VPart at this ⊢
      cases g with
      | true =>
        simp only [if_true] at this ⊢
        obtain ⟨cs, h1, h2, h3⟩ := this
        refine ⟨cs, h1, by simpa using h2, fun k u y hk hy => ?_⟩
        rw [List.getElem?_map, Option.map_eq_some_iff] at hk
        obtain ⟨u', hu', rfl⟩ := hk
        exact hole_VT (h3 k u' y hu' hy)
      | false =>
        simp only [Bool.false_eq_true, if_false] at this ⊢
        obtain ⟨t', h1, h2⟩ := this
        subst h1
        exact ⟨t'.hole, rfl, hole_VT h2⟩
    · exact hpart j r v hj hv'
  have hK : KindS cx D (.tup (rs.set i (g, ts.map T.hole)) : DSl) := fun u hu => by
    rcases hroots u hu with q | q
    · exact hk u q
    · subst q; trivial
  have hM : MemS w (.tup (rs.set i (g, ts.map T.hole)) : DSl) := by
    refine ⟨fun u hu => ?_, fun u hu ho => ?_, trivial⟩
    · rcases hroots u hu with q | q
      · exact hm.1 u q
      · subst q; exact .any
    · rcases hroots u hu with q | q
      · exact hm.2.1 u q ho
      · subst q; cases ho
  have hzip : ∀ p ∈ ts.zip ys, p.1 ∈ ts ∧ VT p.1 p.2 := by
    intro p hp
    obtain ⟨j, hj⟩ := List.getElem?_of_mem hp
    rw [List.getElem?_zip_eq_some] at hj
    exact ⟨List.mem_of_getElem? hj.1, hvc.2 j _ _ hj.1 hj.2⟩
  have hcz := cntP_zip ts ys hvc.1
  have I1 := I.swap (Q := ts.zip ys) hD (fun s' hs' => by
      obtain ⟨u, hu⟩ := List.getElem?_of_mem hs'
      exact I.tup_refs hD (I.val u s' hu) (I.kind s' hs')) (I.tup_refs hD hV hK) hV
    hM hK
    (fun p hp => by
      obtain ⟨h1, h2⟩ := hzip p hp
      refine ⟨h2, hm.1 _ (hts _ h1), hm.2.1 _ (hts _ h1), fun ho x hx => ?_⟩
      have hk1 := hk _ (hts _ h1)
      have hn1 := hnl _ h1
      generalize p.1 = u at *
      cases u with
      | v x => simp [bl] at hx
      | any => simp [bl] at hx
      | s k d z r => cases k <;> first | exact hk1 x hx | (cases hn1; done) | (cases ho; done))
    (fun b => by
      have h1 : (ts.flatMap ownR).count b + (ownBl (.tup (rs.set i (g, ts.map T.hole)) : DSl)).count b = ((ts.map T.hole).flatMap ownR).count b + (ownBl (.tup rs : DSl)).count b :=
        count_set (fun r : Bool × List DT => r.2.flatMap ownR) (g, ts.map T.hole) b rs i _ hi
      have h2 : ((ts.map T.hole).flatMap ownR) = [] := by
        rw [List.flatMap_eq_nil_iff]
        intro u hu
        obtain ⟨v, _, rfl⟩ := List.mem_map.1 hu
        exact ownR_not (hole_not v)
      rw [h2, List.count_nil] at h1
      rw [hcz b, cntP_nil]
      omega)
  have G : Got cx (D.set t (.tup (rs.set i (g, ts.map T.hole)))) w (ts.zip ys) ts ys :=
    ⟨hvc, fun u hu => hm.1 u (hts u hu), fun u hu => hm.2.1 u (hts u hu), fun u hu => KindT_noLent (hnl u hu) (hk u (hts u hu)), fun b => by rw [hcz b]; exact Nat.le_refl _⟩
  have hfin := I1.putGot (a := a) G hv hs (dst := some d) (fun t' h => by cases h; simpa using hd) rfl
  refine ⟨vs.toList[i], ?_, hfin⟩
  have hev : a.eval (.tmp t) = .tuple vs := hy
  rw [hev]
  have : vs[i]? = some vs.toList[i] := by simp
  simp [Instr.extract, this]
section
variable {δ β : Type}
def buildRows (M : Mk δ β) (D : St δ β) (z : Nat) : List (Nat × Operand) → List (List (T δ)) → Option (List (List (T δ)))
  | [], rows => some rows
  | (i, x) :: r, rows =>
    match cellsCopy M D x with
    | some (_, us) => if us.length = z ∧ i < rows.length ∧ us.all T.fine = true then buildRows M D z r (rows.set i us) else none
    | none => none
def buildSliceSl (M : Mk δ β) (F : Fresh δ β) (tab : Tab) (D : St δ β) (dst : Option Nat) (t len : Nat) (parts : List (Nat × Operand)) : Option (St δ β) :=
  match tab.ti t, dst with
  | some ⟨_, _, _, .slice e⟩, some d =>
    match tab.ti e with
    | some te =>
      if d < D.length ∧ te.size ≠ 0 ∧ te.zero.length = te.size ∧ len * te.size ≤ 2 ^ 24 then
        (buildRows M D te.size parts (List.replicate len (te.zero.map (T.inj M.nil)))).map fun rows => putSl D (some d) (.one (.s .own (F.row len) te.size rows))
      else none
    | none => none
  | _, _ => none
def makeSliceSl (M : Mk δ β) (F : Fresh δ β) (tab : Tab) (D : St δ β) (dst : Option Nat) (t : Nat) (l c : Operand) : Option (St δ β) :=
  match tab.ti t, dst, (opd M.nil D l).bind intOfSl, (opd M.nil D c).bind intOfSl with
  | some ⟨_, _, _, .slice e⟩, some d, some n, some k =>
    match tab.ti e with
    | some te =>
      if d < D.length ∧ te.size ≠ 0 ∧ te.zero.length = te.size then
        if 0 ≤ n ∧ n ≤ k ∧ (te.bytes : Int) * k ≤ 281474976710656 ∧ k ≤ 4611686018427387904 then
          some (putSl D (some d) (.one (.s .own (F.row k.toNat) te.size (List.replicate n.toNat (te.zero.map (T.inj M.nil))))))
        else none
      else none
    | none => none
  | _, _, _, _ => none
end

structure RowsAre (z : Nat) (rows : List (List DT)) (cs : List Value) : Prop where
  len : cs.length = rows.length * z
  row : ∀ (i : Nat) (row : List DT), rows[i]? = some row → row.length = z
  val : ∀ (i : Nat) (row : List DT) (j : Nat) (t : DT), rows[i]? = some row → row[j]? = some t → ∃ y, cs[i * z + j]? = some y ∧ VT t y
theorem RowsAre.set {z : Nat} {rows : List (List DT)} {cs : List Value} (h : RowsAre z rows cs) {i : Nat} (hi : i < rows.length) {us : List DT} {ys : List Value} (hv : VCells us ys) (hz : us.length = z) :
    i * z + ys.length ≤ cs.length ∧ RowsAre z (rows.set i us) (spliceAt cs (i * z) ys) := by
  have hle : (i + 1) * z ≤ rows.length * z := Nat.mul_le_mul_right _ hi
  rw [Nat.add_mul, Nat.one_mul] at hle
  have e := hv.1
  have hl : i * z + ys.length ≤ cs.length := by rw [h.len]; omega
  refine ⟨hl, ⟨by rw [splice_len hl, h.len]; simp, fun i' row hr => ?_, fun i' row j t hr hj => ?_⟩⟩
  · by_cases q : i' = i
    · subst q; rw [List.getElem?_set_self hi] at hr; cases hr; exact hz
    · rw [List.getElem?_set_ne (fun g => q g.symm)] at hr; exact h.row i' row hr
  · by_cases q : i' = i
    · subst q
      rw [List.getElem?_set_self hi] at hr; cases hr
      have hlt : j < us.length := by
        rcases Nat.lt_or_ge j us.length with g | g
        · exact g
        · rw [List.getElem?_eq_none g] at hj; cases hj
      refine ⟨ys[j]'(by omega), ?_, hv.2 j t _ hj (List.getElem?_eq_getElem (by omega))⟩
      rw [splice_get hl, if_neg (by omega), if_pos (by omega), show i' * z + j - i' * z = j by omega]
      exact List.getElem?_eq_getElem (by omega)
    · rw [List.getElem?_set_ne (fun g => q g.symm)] at hr
      obtain ⟨y, h1, h2⟩ := h.val i' row j t hr hj
      refine ⟨y, ?_, h2⟩
      have hjz : j < z := by
        have := h.row i' row hr
        rcases Nat.lt_or_ge j row.length with g | g
        · omega
        · rw [List.getElem?_eq_none g] at hj; cases hj
      rw [splice_out hl ?_]
      · exact h1
      · intro hin
        rcases Nat.lt_trichotomy i' i with g | g | g
        · have := mul_lt_of g hjz; omega
        · exact q g
        · have := mul_lt_of (j := ys.length - 1) (z := z) g (by omega); omega
theorem RowsAre.init {zs : List DT} {vs : Array Value} (hv : VCells zs vs.toList) (hz : vs.size ≠ 0) (n : Nat) :
    RowsAre vs.size (List.replicate n zs) ((Array.range (n * vs.size)).map (fun i => vs[i % vs.size]!)).toList := by
  have hl : zs.length = vs.size := by have := hv.1; simpa using this
  refine ⟨by simp, fun i row hr => ?_, fun i row j t hr hj => ?_⟩
  · have := List.mem_of_getElem? hr
    rw [List.eq_of_mem_replicate this]; exact hl
  · have hin : i < n := by
      rcases Nat.lt_or_ge i n with g | g
      · exact g
      · rw [List.getElem?_eq_none (by simpa using g)] at hr; cases hr
    have hrow : row = zs := List.eq_of_mem_replicate (List.mem_of_getElem? hr)
    subst hrow
    have hjz : j < vs.size := by
      rcases Nat.lt_or_ge j row.length with g | g
      · omega
      · rw [List.getElem?_eq_none g] at hj; cases hj
    have hlt : i * vs.size + j < n * vs.size := by
      have : (i + 1) * vs.size ≤ n * vs.size := Nat.mul_le_mul_right _ hin
      rw [Nat.add_mul] at this; omega
    have hmod : (i * vs.size + j) % vs.size = j := by
      rw [Nat.mul_comm, Nat.mul_add_mod]; exact Nat.mod_eq_of_lt hjz
    refine ⟨vs[j], ?_, hv.2 j t _ hj (by simp [hjz])⟩
    simp only [Array.toList_map, Array.toList_range, List.getElem?_map, List.getElem?_range hlt, Option.map_some, hmod]
    simp [hjz]
structure Bare (w : World) (t : DT) : Prop where
  fine : t.fine = true
  holds : Holds w t
  own : t.isOwn = true → OwnT w t
  bl : bl t = []
theorem Got.bare {cx : Cx} {D : DSt} {w : World} {ts : List DT} {ys : List Value} (G : Got cx D w [] ts ys) (hf : ∀ t ∈ ts, t.fine = true) : ∀ t ∈ ts, Bare w t := by
  intro t ht
  refine ⟨hf t ht, G.holds t ht, G.own t ht, ?_⟩
  rcases fine_noLent (hf t ht) with h | h
  · rw [List.eq_nil_iff_forall_not_mem]
    intro b hb
    have h1 := G.cnt b
    rw [cntP_nil] at h1
    have h2 : 0 < (ts.flatMap ownR).count b := List.count_pos_iff.2 (List.mem_flatMap.2 ⟨t, ht, by simp only [ownR, h, if_true]; exact hb⟩)
    omega
  · exact h
theorem cells_of_val {cx : Cx} {D : DSt} {w : World} {P : List (DT × Value)} {us : List DT} {ys : List Value} {g : Bool} {y : Value} (H : Got cx D w P us ys) (hv : ValIs g y ys) : y.cells = ys.toArray := by
  cases g with
  | true => simp only [ValIs, if_true] at hv; rw [hv]; rfl
  | false =>
    have : ys = [y] := by simpa [ValIs] using hv
    have h1 := H.v.cells1 _ (by rw [this]; simp : y ∈ ys)
    rw [this]
    cases y <;> first | rfl | (simp [Value.oneCell'] at h1)
theorem buildRows_sound {cx : Cx} {D : DSt} {a : Act} {w : World} (I : Inv cx D [] a.tmps w) (z : Nat) : ∀ (parts : List (Nat × Operand)) {rows rows' : List (List DT)} {cs : List Value}, RowsAre z rows cs →
    (∀ row ∈ rows, ∀ t ∈ row, Bare w t) → buildRows mkD D z parts rows = some rows' →
    ∃ cs', Instr.fill (fun i => some (i * z, z)) cs.toArray (parts.map fun p => (p.1, a.eval p.2)) = some cs'.toArray ∧ RowsAre z rows' cs' ∧ rows'.length = rows.length ∧ ∀ row ∈ rows', ∀ t ∈ row, Bare w t
  | [], rows, rows', cs, R, B, e => by cases e; exact ⟨cs, rfl, R, rfl, B⟩
  | (i, x) :: r, rows, rows', cs, R, B, e => by
    simp only [buildRows] at e
    split at e
    case h_2 => cases e
    rename_i g us hc
    split at e
    case isFalse => cases e
    rename_i hl
    obtain ⟨ys, H, hv⟩ := I.cellsCopy hc
    have hcells := cells_of_val H hv
    have hf : ∀ t ∈ us, t.fine = true := by have := hl.2.2; rwa [List.all_eq_true] at this
    obtain ⟨hle, R'⟩ := R.set hl.2.1 H.v hl.1
    obtain ⟨cs', h1, h2, h3, h4⟩ := buildRows_sound I z r R' (fun row hr t ht => by
      rcases List.mem_or_eq_of_mem_set hr with q | q
      · exact B row q t ht
      · subst q; exact H.bare hf t ht) e
    refine ⟨cs', ?_, h2, by rw [h3]; simp, h4⟩
    have e2 := H.v.1
    simp only [List.map_cons, Instr.fill, hcells]
    rw [if_neg (by simp; omega)]
    rw [foldl_set_array ys.toArray (i * z) cs.toArray (by simpa using hle)]
    simpa using h1
theorem buildSlice_sound (ok : TabOk P tab) {cx : Cx} {D D' : DSt} {a : Act} {w : World} (I : Inv cx D [] a.tmps w) {dst : Option Nat} {t len : Nat} {parts : Array (Nat × Operand)}
    (e : buildSliceSl mkD (frD w) tab D dst t len parts.toList = some D') : ∃ y w', (Instr.buildSlice t len (parts.map fun (i, x) => (i, a.eval x))).run P w = .ok y w' ∧ Inv cx D' [] (a.put dst y).tmps w' := by
  unfold buildSliceSl at e
  split at e
  case h_2 => cases e
  rename_i sz by_ ze el d hti
  split at e
  case h_2 => cases e
  rename_i te hte
  split at e
  case isFalse => cases e
  rename_i hc
  rw [Option.map_eq_some_iff] at e
  obtain ⟨rows, h1, rfl⟩ := e
  obtain ⟨hd, hz0, hzl, hmax⟩ := hc
  have hu := ti_slice (Tab.ok ok hti) rfl
  obtain ⟨z, g1, g2, g3⟩ := ti_zero (Tab.ok ok hte) w
  have hs := ti_size (Tab.ok ok hte) w
  have G := inj_zero (P := P) (t := el) (w := w) (cx := cx) (D := D) (ys := z.cells.toList) g3
  rw [← g2] at G
  have hzs : z.cells.size = te.size := by rw [← hzl, g2]; simp [zerosOf]
  have hfine : ∀ t ∈ te.zero.map (T.inj nilD), t.fine = true := by
    intro t ht
    rw [g2] at ht
    simp only [List.mem_map, zerosOf, List.mem_mapIdx] at ht
    obtain ⟨u, ⟨j, hj, rfl⟩, rfl⟩ := ht
    unfold zT
    split <;> rfl
  have R0 := RowsAre.init G.v (by omega) len
  rw [hzs] at R0
  obtain ⟨cs', f1, R, f3, B⟩ := buildRows_sound I te.size parts.toList R0 (fun row hr t ht => by
    have := List.eq_of_mem_replicate hr
    subst this
    exact G.bare hfine t ht) h1
  have hlen : rows.length = len := by rw [f3]; simp
  have hrun : (Instr.buildSlice t len (parts.map fun (i, x) => (i, a.eval x))).run P w = .ok (.slice (some ⟨w.heap.size, 0, none⟩) len len) (w.alloc (.cells cs'.toArray el)) := by
    have hf2 : Instr.fill (fun i => some (i * te.size, te.size)) ((Array.range (len * te.size)).map fun i => z.cells[i % te.size]!) (parts.toList.map fun p => (p.1, a.eval p.2)) = some cs'.toArray := by
      rw [Array.toArray_toList] at f1; exact f1
    simp only [Instr.buildSlice, run_underlying hu, Sem.run_bind, Result.andThen_ok, hs]
    rw [if_neg (by omega)]
    by_cases h0 : len * te.size = 0
    · have hl0 : len = 0 := by
        rcases Nat.mul_eq_zero.1 h0 with h | h
        · exact h
        · exact absurd h hz0
      rw [h0] at hf2
      have e0 : (Array.range 0).map (fun i => z.cells[i % te.size]!) = #[] := by simp
      rw [e0] at hf2
      simp only [h0, if_true, Sem.run_pure, Result.andThen_ok]
      have e1 : ∀ zz : Array Value, (Array.range 0).map (fun i => zz[i % zz.size]!) = #[] := fun zz => by simp
      simp only [e1]
      simp [hf2, run_newRow']
    · simp [h0, g1, hzs, hf2, run_newRow']
  have g := Grew.alloc w (.cells cs'.toArray el)
  have hnew : (w.alloc (.cells cs'.toArray el)).heap[w.heap.size]? = some (.cells cs'.toArray el (0, 0)) := by
    show (w.heap.push _)[w.heap.size]? = _
    simp
  have hB : ∀ (i : Nat) (row : List DT) (j : Nat) (t : DT), rows[i]? = some row → row[j]? = some t → Bare w t := fun i row j t hi hj => B row (List.mem_of_getElem? hi) t (List.mem_of_getElem? hj)
  have hH : Holds (w.alloc (.cells cs'.toArray el)) (.s .own ((frD w).row len) te.size rows) := by
    refine .s _ _ _ _ rfl rfl _ el (0, 0) hnew (by simp [frD, hlen]) R.row (fun i row j t hi hj => ?_) (fun i row j t hi hj => (hB i row j t hi hj).holds.frame fun b _ hb => g.same b hb)
    obtain ⟨y, y1, y2⟩ := R.val i row j t hi hj
    exact ⟨y, by simpa [frD] using y1, y2⟩
  have hO : OwnT (w.alloc (.cells cs'.toArray el)) (.s .own ((frD w).row len) te.size rows) := by
    refine .s _ _ _ rfl rfl _ el 0 0 hnew (by simp [frD, hlen]) (by simp [frD, R.len, hlen]) (fun x _ _ h => by omega) (fun i row j t hi hj => ?_)
    have := hB i row j t hi hj
    exact (OwnT_fine this.fine this.own).frame fun b _ hb => g.same b hb
  refine ⟨_, _, hrun, I.newRows (P := []) g (by simp) (d := (frD w).row len) ⟨rfl, rfl⟩ hH hO (fun b => ?_) hd (by simp [VT, Dec.addr, frD, hlen])⟩
  have : rows.flatMap (fun x => x.flatMap Am.bl) = [] := by
    rw [List.flatMap_eq_nil_iff]
    intro row hr
    rw [List.flatMap_eq_nil_iff]
    intro t ht
    exact (B row hr t ht).bl
  rw [this]; simp
structure RetOk1 (w w' : World) (t : DT) (v : Value) : Prop where
  val : VT t v
  holds : Holds w' t
  own : OwnT w' t
  once : ∀ b, (bl t).count b ≤ 1
  new : ∀ b ∈ bl t, w.heap.size ≤ b ∧ b < w'.heap.size
theorem buildSlice_ret (ok : TabOk P tab) {cx : Cx} {D D' : DSt} {a : Act} {w : World} (I : Inv cx D [] a.tmps w) {dst : Option Nat} {t len : Nat} {parts : Array (Nat × Operand)}
    (e : buildSliceSl mkD (frD w) tab D dst t len parts.toList = some D') : ∃ y w' d dc z rows, dst = some d ∧ D' = putSl D (some d) (.one (.s .own dc z rows)) ∧ (Instr.buildSlice t len (parts.map fun (i, x) => (i, a.eval x))).run P w = .ok y w' ∧ Grew w w' ∧ RetOk1 w w' (.s .own dc z rows) y := by
  unfold buildSliceSl at e
  split at e
  case h_2 => cases e
  rename_i sz by_ ze el d hti
  split at e
  case h_2 => cases e
  rename_i te hte
  split at e
  case isFalse => cases e
  rename_i hc
  rw [Option.map_eq_some_iff] at e
  obtain ⟨rows, h1, rfl⟩ := e
  obtain ⟨hd, hz0, hzl, hmax⟩ := hc
  have hu := ti_slice (Tab.ok ok hti) rfl
  obtain ⟨z, g1, g2, g3⟩ := ti_zero (Tab.ok ok hte) w
  have hs := ti_size (Tab.ok ok hte) w
  have G := inj_zero (P := P) (t := el) (w := w) (cx := cx) (D := D) (ys := z.cells.toList) g3
  rw [← g2] at G
  have hzs : z.cells.size = te.size := by rw [← hzl, g2]; simp [zerosOf]
  have hfine : ∀ t ∈ te.zero.map (T.inj nilD), t.fine = true := by
    intro t ht
    rw [g2] at ht
    simp only [List.mem_map, zerosOf, List.mem_mapIdx] at ht
    obtain ⟨u, ⟨j, hj, rfl⟩, rfl⟩ := ht
    unfold zT
    split <;> rfl
  have R0 := RowsAre.init G.v (by omega) len
  rw [hzs] at R0
  obtain ⟨cs', f1, R, f3, B⟩ := buildRows_sound I te.size parts.toList R0 (fun row hr t ht => by
    have := List.eq_of_mem_replicate hr
    subst this
    exact G.bare hfine t ht) h1
  have hlen : rows.length = len := by rw [f3]; simp
  have hrun : (Instr.buildSlice t len (parts.map fun (i, x) => (i, a.eval x))).run P w = .ok (.slice (some ⟨w.heap.size, 0, none⟩) len len) (w.alloc (.cells cs'.toArray el)) := by
    have hf2 : Instr.fill (fun i => some (i * te.size, te.size)) ((Array.range (len * te.size)).map fun i => z.cells[i % te.size]!) (parts.toList.map fun p => (p.1, a.eval p.2)) = some cs'.toArray := by
      rw [Array.toArray_toList] at f1; exact f1
    simp only [Instr.buildSlice, run_underlying hu, Sem.run_bind, Result.andThen_ok, hs]
    rw [if_neg (by omega)]
    by_cases h0 : len * te.size = 0
    · have hl0 : len = 0 := by
        rcases Nat.mul_eq_zero.1 h0 with h | h
        · exact h
        · exact absurd h hz0
      rw [h0] at hf2
      have e0 : (Array.range 0).map (fun i => z.cells[i % te.size]!) = #[] := by simp
      rw [e0] at hf2
      simp only [h0, if_true, Sem.run_pure, Result.andThen_ok]
      have e1 : ∀ zz : Array Value, (Array.range 0).map (fun i => zz[i % zz.size]!) = #[] := fun zz => by simp
      simp only [e1]
      simp [hf2, run_newRow']
    · simp [h0, g1, hzs, hf2, run_newRow']
  have g := Grew.alloc w (.cells cs'.toArray el)
  have hnew : (w.alloc (.cells cs'.toArray el)).heap[w.heap.size]? = some (.cells cs'.toArray el (0, 0)) := by
    show (w.heap.push _)[w.heap.size]? = _
    simp
  have hB : ∀ (i : Nat) (row : List DT) (j : Nat) (t : DT), rows[i]? = some row → row[j]? = some t → Bare w t := fun i row j t hi hj => B row (List.mem_of_getElem? hi) t (List.mem_of_getElem? hj)
  have hH : Holds (w.alloc (.cells cs'.toArray el)) (.s .own ((frD w).row len) te.size rows) := by
    refine .s _ _ _ _ rfl rfl _ el (0, 0) hnew (by simp [frD, hlen]) R.row (fun i row j t hi hj => ?_) (fun i row j t hi hj => (hB i row j t hi hj).holds.frame fun b _ hb => g.same b hb)
    obtain ⟨y, y1, y2⟩ := R.val i row j t hi hj
    exact ⟨y, by simpa [frD] using y1, y2⟩
  have hO : OwnT (w.alloc (.cells cs'.toArray el)) (.s .own ((frD w).row len) te.size rows) := by
    refine .s _ _ _ rfl rfl _ el 0 0 hnew (by simp [frD, hlen]) (by simp [frD, R.len, hlen]) (fun x _ _ h => by omega) (fun i row j t hi hj => ?_)
    have := hB i row j t hi hj
    exact (OwnT_fine this.fine this.own).frame fun b _ hb => g.same b hb
  have hnil : rows.flatMap (fun x => x.flatMap Am.bl) = [] := by
    rw [List.flatMap_eq_nil_iff]
    intro row hr
    rw [List.flatMap_eq_nil_iff]
    intro t ht
    exact (B row hr t ht).bl
  refine ⟨_, _, d, (frD w).row len, te.size, rows, rfl, rfl, hrun, g, ⟨by simp [VT, Dec.addr, frD, hlen], hH, hO, ?_, fun b hb => ?_⟩⟩
  · intro b
    rw [bl_s, hnil]
    simp only [frD, Bool.false_eq_true, if_false, List.append_nil]
    rw [List.count_singleton]
    split <;> omega
  · rw [bl_s, hnil] at hb
    simp [frD] at hb
    subst hb
    exact ⟨Nat.le_refl _, by simp⟩
theorem Inv.opInt {cx : Cx} {D : DSt} {a : Act} {w : World} (I : Inv cx D [] a.tmps w) {x : Operand} {n : Int} (h : (Am.opd mkD.nil D x).bind intOfSl = some n) : ∃ k, a.eval x = .int k n := by
  rw [Option.bind_eq_some_iff] at h
  obtain ⟨s, h1, h2⟩ := h
  unfold intOfSl at h2
  split at h2
  · rename_i k n'
    cases h2
    exact ⟨k, (I.opd h1).val.1⟩
  · cases h2
theorem makeSlice_sound (ok : TabOk P tab) {cx : Cx} {D D' : DSt} {a : Act} {w : World} (I : Inv cx D [] a.tmps w) {dst : Option Nat} {t : Nat} {l c : Operand}
    (e : makeSliceSl mkD (frD w) tab D dst t l c = some D') : ∃ y w', (Instr.makeSlice t (a.eval l) (a.eval c)).run P w = .ok y w' ∧ Inv cx D' [] (a.put dst y).tmps w' := by
  unfold makeSliceSl at e
  split at e
  case h_2 => cases e
  rename_i sz by_ ze el d n k hti hl hc'
  split at e
  case h_2 => cases e
  rename_i te hte
  split at e
  case isFalse => cases e
  rename_i hc
  split at e
  case isFalse => cases e
  rename_i hn
  cases e
  obtain ⟨hd, hz0, hzl⟩ := hc
  obtain ⟨n1, n2, n3, n4⟩ := hn
  have hu := ti_slice (Tab.ok ok hti) rfl
  obtain ⟨i, d', z, g1, g2', g3', g4, g5, g2, g7, g3⟩ := ti_info (Tab.ok ok hte)
  have G := inj_zero (P := P) (t := el) (w := w) (cx := cx) (D := D) (ys := z.cells.toList) g3
  rw [← g2] at G
  have hzs : z.cells.size = te.size := by rw [← hzl, g2]; simp [zerosOf]
  have hfine : ∀ t ∈ te.zero.map (T.inj nilD), t.fine = true := by
    intro t ht
    rw [g2] at ht
    simp only [List.mem_map, zerosOf, List.mem_mapIdx] at ht
    obtain ⟨u, ⟨j, hj, rfl⟩, rfl⟩ := ht
    unfold zT
    split <;> rfl
  obtain ⟨kl, el1⟩ := I.opInt hl
  obtain ⟨kc, el2⟩ := I.opInt hc'
  have hrun := run_make w t el i z hu g1 g3' kl kc n k n1 n2 (by rw [g5]; exact n3) (by omega)
  rw [← el1, ← el2] at hrun
  have R := RowsAre.init G.v (by omega) k.toNat
  have hcs : (madeCells z.cells (k.toNat * i.size)) = ((Array.range (k.toNat * z.cells.size)).map (fun i => z.cells[i % z.cells.size]!)) := by
    unfold madeCells; rw [g4, hzs]
  rw [hcs] at hrun
  rw [hzs] at R hrun
  generalize hcells : (Array.range (k.toNat * te.size)).map (fun i => z.cells[i % te.size]!) = cells at R hrun
  have g := Grew.alloc w (.cells cells el)
  have hnew : (w.alloc (.cells cells el)).heap[w.heap.size]? = some (.cells cells el (0, 0)) := by
    show (w.heap.push _)[w.heap.size]? = _
    simp
  have hkn : n.toNat ≤ k.toNat := by omega
  have hrow : ∀ (i : Nat) (row : List DT), (List.replicate n.toNat (te.zero.map (T.inj nilD)))[i]? = some row → (List.replicate k.toNat (te.zero.map (T.inj nilD)))[i]? = some row := by
    intro i row h
    rw [List.getElem?_replicate] at h ⊢
    split at h
    · rw [if_pos (by omega)]; exact h
    · cases h
  have hB : ∀ (i : Nat) (row : List DT) (j : Nat) (t : DT), (List.replicate n.toNat (te.zero.map (T.inj nilD)))[i]? = some row → row[j]? = some t → Bare w t := fun i row j t hi hj => by
    have := List.eq_of_mem_replicate (List.mem_of_getElem? hi)
    subst this
    exact G.bare hfine t (List.mem_of_getElem? hj)
  have hsz : cells.size = k.toNat * te.size := by rw [← hcells]; simp
  have hH : Holds (w.alloc (.cells cells el)) (.s .own ((frD w).row k.toNat) te.size (List.replicate n.toNat (te.zero.map (T.inj nilD)))) := by
    refine .s _ _ _ _ rfl rfl _ el (0, 0) hnew (by simp [frD]; omega) (fun i row h => R.row i row (hrow i row h)) (fun i row j t hi hj => ?_) (fun i row j t hi hj => (hB i row j t hi hj).holds.frame fun b _ hb => g.same b hb)
    obtain ⟨y, y1, y2⟩ := R.val i row j t (hrow i row hi) hj
    exact ⟨y, by simpa [frD] using y1, y2⟩
  have hO : OwnT (w.alloc (.cells cells el)) (.s .own ((frD w).row k.toNat) te.size (List.replicate n.toNat (te.zero.map (T.inj nilD)))) := by
    refine .s _ _ _ rfl rfl _ el 0 0 hnew (by simp [frD]; omega) (by simp [frD, hsz]) (fun x _ _ h => by omega) (fun i row j t hi hj => ?_)
    have := hB i row j t hi hj
    exact (OwnT_fine this.fine this.own).frame fun b _ hb => g.same b hb
  refine ⟨_, _, hrun, I.newRows (P := []) g (by simp) (d := (frD w).row k.toNat) ⟨rfl, rfl⟩ hH hO (fun b => ?_) hd (by simp [VT, Dec.addr, frD])⟩
  have : (List.replicate n.toNat (te.zero.map (T.inj nilD))).flatMap (fun x => x.flatMap Am.bl) = [] := by
    rw [List.flatMap_eq_nil_iff]
    intro row hr
    rw [List.flatMap_eq_nil_iff]
    intro t ht
    obtain ⟨i, hi⟩ := List.getElem?_of_mem hr
    obtain ⟨j, hj⟩ := List.getElem?_of_mem ht
    exact (hB i row j t hi hj).bl
  rw [this]; simp
end Go.Proofs.Ytalapefcbodhaaa.Am
namespace Go.Proofs.Ytalapefcbodhaaa.Am
set_option linter.unusedVariables false
set_option linter.unusedSimpArgs false
open Go

theorem Holds.cells {w : World} {k : Kd} {d : Dec} {z : Nat} {rows : List (List DT)} (h : Holds w (.s k d z rows)) (hz0 : 0 < z) :
    ∃ cs : List Value, RowsAre z rows cs ∧ (∀ u ∈ cs, u.oneCell' = true) ∧ (rows = [] ∧ cs = [] ∨ d.nil = false ∧ d.sp = none ∧ ∀ j u, cs[j]? = some u → w.cell? ⟨d.b, d.o + j, none⟩ = some u) := by
  cases h with
  | e => exact ⟨[], ⟨by simp, fun i r h => by simp at h, fun i r j t h => by simp at h⟩, fun u h => (by cases h), .inl ⟨rfl, rfl⟩⟩
  | s _ _ _ _ hnil hsp c e f hb hcap hz hv hh =>
    have at_ : ∀ n, n < rows.length * z → ∃ t y, c[d.o + n]? = some y ∧ VT t y := by
      intro n hn
      have hi : n / z < rows.length := Nat.div_lt_of_lt_mul (by rw [Nat.mul_comm]; exact hn)
      have hj : n % z < z := Nat.mod_lt _ hz0
      have hl := hz (n / z) rows[n / z] (List.getElem?_eq_getElem hi)
      obtain ⟨y, h1, h2⟩ := hv (n / z) rows[n / z] (n % z) (rows[n / z][n % z]'(by omega)) (List.getElem?_eq_getElem hi) (List.getElem?_eq_getElem (by omega))
      have : n / z * z + n % z = n := by rw [Nat.mul_comm]; exact Nat.div_add_mod n z
      rw [Nat.add_assoc, this] at h1
      exact ⟨_, y, h1, h2⟩
    refine ⟨(List.range (rows.length * z)).map fun n => (c[d.o + n]?).getD undef, ⟨by simp, hz, fun i row j t hi hj => ?_⟩, fun u hu => ?_, .inr ⟨hnil, hsp, fun j u hj => ?_⟩⟩
    · obtain ⟨y, h1, h2⟩ := hv i row j t hi hj
      refine ⟨y, ?_, h2⟩
      have hil : i < rows.length := by
        rcases Nat.lt_or_ge i rows.length with g | g
        · exact g
        · rw [List.getElem?_eq_none g] at hi; cases hi
      have hjl : j < z := by
        have := hz i row hi
        rcases Nat.lt_or_ge j row.length with g | g
        · omega
        · rw [List.getElem?_eq_none g] at hj; cases hj
      have := mul_lt_of hil hjl
      rw [List.getElem?_map, List.getElem?_range this, Option.map_some, ← Nat.add_assoc, h1]
      rfl
    · simp only [List.mem_map, List.mem_range] at hu
      obtain ⟨n, hn, rfl⟩ := hu
      obtain ⟨t, y, h1, h2⟩ := at_ n hn
      rw [h1]; exact h2.one
    · rw [List.getElem?_map, Option.map_eq_some_iff] at hj
      obtain ⟨n, hn, rfl⟩ := hj
      have hlt : j < rows.length * z := by
        rcases Nat.lt_or_ge j (rows.length * z) with g | g
        · exact g
        · rw [List.getElem?_eq_none (by simpa using g)] at hn; cases hn
      rw [List.getElem?_range hlt] at hn
      cases hn
      obtain ⟨t, y, h1, h2⟩ := at_ j hlt
      rw [cell_of hb, h1]; rfl
theorem RowsAre.append {z : Nat} {rows rows' : List (List DT)} {cs cs' : List Value} (h : RowsAre z rows cs) (g : RowsAre z rows' cs') : RowsAre z (rows ++ rows') (cs ++ cs') := by
  refine ⟨by simp [h.len, g.len, Nat.add_mul], fun i row hi => ?_, fun i row j t hi hj => ?_⟩
  · rcases Nat.lt_or_ge i rows.length with q | q
    · rw [List.getElem?_append_left q] at hi; exact h.row i row hi
    · rw [List.getElem?_append_right q] at hi; exact g.row _ row hi
  · rcases Nat.lt_or_ge i rows.length with q | q
    · rw [List.getElem?_append_left q] at hi
      obtain ⟨y, h1, h2⟩ := h.val i row j t hi hj
      refine ⟨y, ?_, h2⟩
      rw [List.getElem?_append_left]
      · exact h1
      · rcases Nat.lt_or_ge (i * z + j) cs.length with p | p
        · exact p
        · rw [List.getElem?_eq_none p] at h1; cases h1
    · rw [List.getElem?_append_right q] at hi
      obtain ⟨y, h1, h2⟩ := g.val _ row j t hi hj
      refine ⟨y, ?_, h2⟩
      have e1 : (i - rows.length) * z = i * z - rows.length * z := Nat.sub_mul _ _ _
      have e2 : rows.length * z ≤ i * z := Nat.mul_le_mul_right _ q
      rw [List.getElem?_append_right (by rw [h.len]; omega), h.len]
      rw [show i * z + j - rows.length * z = (i - rows.length) * z + j by omega]
      exact h1

structure GrewX (B : Nat) (w w' : World) : Prop where
  os : w'.os = w.os
  tape : w'.tape = w.tape
  output : w'.output = w.output
  size : w.heap.size ≤ w'.heap.size
  same : ∀ b, b ≠ B → b < w.heap.size → w'.heap[b]? = w.heap[b]?
structure OutS (B : Nat) (s : DSl) : Prop where
  roots : ∀ v ∈ rootsOf s, B ∉ bl v
  rootsO : ∀ v ∈ Am.rootsO s, B ∉ bl v
  head : match s with | .box b _ => b.1 ≠ B | .im _ b _ _ => b.1 ≠ B | .fni _ caps => ∀ p ∈ caps, p.1.1 ≠ B | _ => True
theorem Lies.grewX {B : Nat} {w w' : World} (g : GrewX B w w') {b : Nat × Nat} (hb : b.1 ≠ B) {ts : List DT} (h : Lies w b ts) : Lies w' b ts := by
  obtain ⟨c, e, f, h1, hv⟩ := h
  exact ⟨c, e, f, by rw [g.same _ hb (lt_of_some h1)]; exact h1, hv⟩
theorem MemS.grewX {B : Nat} {w w' : World} (g : GrewX B w w') {s : DSl} (ho : OutS B s) (h : MemS w s) : MemS w' s := by
  obtain ⟨h1, h2, h3⟩ := h
  refine ⟨fun t ht => (h1 t ht).frame fun b hb hl => g.same b (fun e => ho.roots t ht (e ▸ hb)) hl, fun t ht hw => (h2 t ht hw).frame fun b hb hl => g.same b (fun e => ho.rootsO t ht (e ▸ hb)) hl, ?_⟩
  cases s with
  | box b ts =>
    refine ⟨h3.1.grewX g ho.head, fun c e lo hi hb => ?_⟩
    rw [g.same _ ho.head h3.1.lt] at hb
    exact h3.2 c e lo hi hb
  | im k b ts off => exact Lies.grewX g ho.head h3
  | fni f caps => exact fun p hp => (h3 p hp).grewX g (ho.head p hp)
  | _ => trivial
theorem Inv.pend_out {cx : Cx} {D : DSt} {P : List (DT × Value)} {tm : Array Value} {w : World} (I : Inv cx D P tm w) {B : Nat} (hB : 0 < cntP P B) : cx.may B ∧ B < w.heap.size ∧ ∀ s ∈ D, OutS B s := by
  have hmay := I.bnd B (by omega)
  refine ⟨hmay.1, hmay.2, fun s hs => ?_⟩
  have hno : ∀ s' ∈ D, B ∉ ownBl s' := by
    intro s' hs' hb
    have h1 := mem_ownBl_cnt hs' hb
    have h2 := I.once B
    omega
  have kt : ∀ v : DT, KindT cx D v → (v.isOwn = true → B ∉ bl v) → B ∉ bl v := by
    intro v hk ho hb
    cases v with
    | v x => simp [bl] at hb
    | any => simp [bl] at hb
    | s k d z r =>
      cases k with
      | own => exact ho rfl hb
      | far => exact Cx.far_not (hk B hb) hmay.1
      | lent h c fl =>
        obtain ⟨t', h1, h2, h3, h3r⟩ := hk
        obtain ⟨s', g1, g2, g3, g3', g4⟩ := cellAt_mem h1
        exact hno s' g2 (g4 h2 B (h3 B hb))
  have hk := I.kind s hs
  have hn := hno s hs
  cases s with
  | any => exact ⟨fun v hv => by simp [rootsOf] at hv, fun v hv => by simp [Am.rootsO] at hv, trivial⟩
  | one t =>
    have h1 : B ∉ bl t := kt t (hk t (by simp [rootsOf])) (fun ho hb => hn (by simp [ownBl, ownR, ho, hb]))
    exact ⟨fun v hv => by simp [rootsOf] at hv; subst hv; exact h1, fun v hv => by simp [Am.rootsO] at hv; subst hv; exact h1, trivial⟩
  | agg ts =>
    have h1 : ∀ t ∈ ts, B ∉ bl t := fun t ht => kt t (hk t ht) (fun ho hb => hn (by simp only [ownBl, List.mem_flatMap]; exact ⟨t, ht, by simp [ownR, ho, hb]⟩))
    exact ⟨h1, h1, trivial⟩
  | box b ts =>
    have h1 : ∀ t ∈ ts, B ∉ bl t := fun t ht => kt t (hk t ht) (fun ho hb => hn (by simp only [ownBl, List.mem_cons, List.mem_flatMap]; exact .inr ⟨t, ht, by simp [ownR, ho, hb]⟩))
    exact ⟨h1, h1, fun e => hn (by simp [ownBl, e])⟩
  | tup rs =>
    have h1 : ∀ t ∈ rs.flatMap (·.2), B ∉ bl t := fun t ht => kt t (hk t ht) (fun ho hb => hn (by
      simp only [List.mem_flatMap] at ht
      obtain ⟨p, hp, ht⟩ := ht
      simp only [ownBl, List.mem_flatMap]
      exact ⟨p, hp, t, ht, by simp [ownR, ho, hb]⟩))
    exact ⟨h1, h1, trivial⟩
  | al h c st lo len => exact ⟨fun v hv => by simp [rootsOf] at hv, fun v hv => by simp [Am.rootsO] at hv, trivial⟩
  | pb h off => exact ⟨fun v hv => by simp [rootsOf] at hv, fun v hv => by simp [Am.rootsO] at hv, trivial⟩
  | pe h c st i off => exact ⟨fun v hv => by simp [rootsOf] at hv, fun v hv => by simp [Am.rootsO] at hv, trivial⟩
  | clo f hs' => exact ⟨fun v hv => by simp [rootsOf] at hv, fun v hv => by simp [Am.rootsO] at hv, trivial⟩
  | im k b ts off =>
    have hk' : KindIm cx D k b.1 ts := hk
    cases k with
    | own => exact hk'.elim
    | far => exact ⟨fun v hv hb => Cx.far_not (hk'.2 v hv B hb) hmay.1, fun v hv => by simp [Am.rootsO] at hv, fun e => Cx.far_not (e ▸ hk'.1) hmay.1⟩
    | lent h c fl =>
      obtain ⟨t', h1, h2, h3, h4⟩ := hk'
      obtain ⟨s', g1, g2, g3, g3', g4⟩ := cellAt_mem h1
      exact ⟨fun v hv hb => hno s' g2 (g4 h2 B (h4 v hv B hb)), fun v hv => by simp [Am.rootsO] at hv, fun e => hno s' g2 (g4 h2 B (e ▸ h3))⟩
  | fni f caps =>
    refine ⟨fun v hv hb => ?_, fun v hv => by simp [Am.rootsO] at hv, fun p hp e => Cx.far_not (e ▸ (hk p hp).1) hmay.1⟩
    simp only [rootsOf, List.mem_flatMap] at hv
    obtain ⟨p, hp, hv⟩ := hv
    exact Cx.far_not ((hk p hp).2 v hv B hb) hmay.1
theorem Inv.pendWrite {cx : Cx} {D : DSt} {P : List (DT × Value)} {tm : Array Value} {w w' : World} (I : Inv cx D P tm w) {B : Nat} (hB : 0 < cntP P B) (g : GrewX B w w') {t : DT} {y : Value}
    (hv : VT t y) (hh : Holds w' t) (ho : OwnT w' t) (hown : t.isOwn = true) (hc : ∀ b, (bl t).count b ≤ cntP P b) : Inv cx D [(t, y)] tm w' := by
  obtain ⟨hmay, hlt, hout⟩ := I.pend_out hB
  have hcn : ∀ b, cntP [(t, y)] b ≤ cntP P b := fun b => by
    simp only [cntP, List.flatMap_cons, List.flatMap_nil, List.append_nil, ownR, hown, if_true]
    exact hc b
  refine ⟨I.size, I.val, fun s hs => (I.mem s hs).grewX g (hout s hs), I.kind, fun p hp => ?_, fun b => ?_, fun b hb => ?_, ?_⟩
  · rw [List.mem_singleton] at hp; subst hp
    exact ⟨hv, hh, fun _ => ho, fun h => by rw [hown] at h; cases h⟩
  · have := I.once b; have := hcn b; omega
  · have := hcn b
    have := I.bnd b (by omega)
    exact ⟨this.1, Nat.lt_of_lt_of_le this.2 g.size⟩
  · have f := I.frame
    exact ⟨g.os.trans f.os, g.tape.trans f.tape, g.output.trans f.output, Nat.le_trans f.size g.size, fun b hb => by
      rw [g.same b (fun e => Cx.far_not (e ▸ hb) hmay) (Nat.lt_of_lt_of_le hb.1 f.size)]; exact f.same b hb⟩
end Go.Proofs.Ytalapefcbodhaaa.Am
namespace Go.Proofs.Ytalapefcbodhaaa.Am
set_option linter.unusedVariables false
set_option linter.unusedSimpArgs false
open Go

section
variable {δ β : Type}
def appX (M : Mk δ β) (D : St δ β) (fl : Bool) (x : Operand) : Option (Nat × List (List (T δ)) × St δ β) :=
  match fl with
  | true =>
    match cellsCopy M D x with
    | some (false, [.s _ _ z2 rows2]) => if rows2.all (fun r => r.all T.flat) = true then some (z2, rows2, D) else none
    | _ => none
  | false =>
    match cellsTake M D x with
    | some (false, [.s .own _ z2 rows2], D2) => some (z2, rows2, D2)
    | _ => none
def appendSl (M : Mk δ β) (F : Fresh δ β) (tab : Tab) (D : St δ β) (dst : Option Nat) (t t2 : Nat) (s x : Operand) : Option (St δ β) :=
  match tab.ti t, tab.ti t2, dst, cellsTake M D s with
  | some ⟨_, _, _, .slice e⟩, some ⟨_, _, _, .slice _⟩, some d', some (false, [.s .own d z rows], D1) =>
    match tab.ti e with
    | some te =>
      match appX M D1 (te.zero.all T.flat) x with
      | some (z2, rows2, D2) =>
        if d' < D2.length ∧ te.size = z ∧ te.size ≠ 0 ∧ te.zero.length = te.size ∧ z2 = z then
          if (rows.length + rows2.length) * te.bytes ≤ 140737488355328 ∧ rows.length + rows2.length ≤ 4611686018427387904 then
            some (putSl D2 (some d') (.one (.s .own (F.app d rows.length rows2.length e) z (rows ++ rows2))))
          else none
        else none
      | none => none
    | none => none
  | _, _, _, _ => none
end

theorem flat_fine {t : DT} (h : t.flat = true) : t.fine = true := by
  cases t with
  | v x => rfl
  | any => rfl
  | s k d z r => cases h
theorem flat_bl {t : DT} (h : t.flat = true) : bl t = [] := by
  cases t with
  | v x => rfl
  | any => rfl
  | s k d z r => cases h
theorem flat_own {w : World} {t : DT} (h : t.flat = true) : OwnT w t ∧ Holds w t := by
  cases t with
  | v x => exact ⟨.v x, .v x⟩
  | any => exact ⟨.any, .any⟩
  | s k d z r => cases h

theorem appX_sound {cx : Cx} {D D2 : DSt} {P0 : List (DT × Value)} {a : Act} {w : World} (I : Inv cx D P0 a.tmps w) {fl : Bool} {x : Operand} {z2 : Nat} {rows2 : List (List DT)} (e : appX mkD D fl x = some (z2, rows2, D2)) :
    ∃ k2 d2 P2, Inv cx D2 (P2 ++ P0) a.tmps w ∧ VT (.s k2 d2 z2 rows2) (a.eval x) ∧ Holds w (.s k2 d2 z2 rows2) ∧ (∀ (i : Nat) (row : List DT) (j : Nat) (u : DT), rows2[i]? = some row → row[j]? = some u → OwnT w u) ∧
      ∀ b, (rows2.flatMap (fun x => x.flatMap bl)).count b ≤ cntP P2 b := by
  unfold appX at e
  split at e
  · split at e
    case h_2 => cases e
    rename_i k2 d2 z2' rows2' hx
    split at e
    case isFalse => cases e
    rename_i hflat
    cases e
    obtain ⟨ys2, G2, hv2⟩ := I.cellsCopy hx
    simp only [ValIs, Bool.false_eq_true, if_false] at hv2
    subst hv2
    refine ⟨k2, d2, [], I, G2.v.2 0 _ _ rfl rfl, G2.holds _ (List.mem_singleton_self _), fun i row j u h1 h2 => (flat_own (List.all_eq_true.1 (List.all_eq_true.1 hflat row (List.mem_of_getElem? h1)) u (List.mem_of_getElem? h2))).1, fun b => ?_⟩
    have : rows2.flatMap (fun x => x.flatMap bl) = [] := by
      rw [List.flatMap_eq_nil_iff]
      intro row hr
      rw [List.flatMap_eq_nil_iff]
      intro u hu
      exact flat_bl (List.all_eq_true.1 (List.all_eq_true.1 hflat row hr) u hu)
    rw [this]; simp
  · split at e
    case h_2 => cases e
    rename_i d2 z2' rows2' D2' hx
    cases e
    obtain ⟨ys2, P2, I2, G2, hv2⟩ := I.cellsTakeP hx
    simp only [ValIs, Bool.false_eq_true, if_false] at hv2
    subst hv2
    have hO := G2.own _ (List.mem_singleton_self _) rfl
    refine ⟨.own, d2, P2, I2, G2.v.2 0 _ _ rfl rfl, G2.holds _ (List.mem_singleton_self _), fun i row j u h1 h2 => ?_, fun b => ?_⟩
    · cases hO with
      | nil => simp at h1
      | s _ _ _ _ _ _ _ _ _ _ _ _ _ hho => exact hho i row j u h1 h2
    · have := G2.cnt b
      simp only [List.flatMap_cons, List.flatMap_nil, List.append_nil, ownR, T.isOwn, if_true, bl_s, List.count_append] at this
      omega
theorem append_sound {P : Program} {tab : Tab} (ok : TabOk P tab) {cx : Cx} {D D' : DSt} {a : Act} {w : World} (I : Inv cx D [] a.tmps w) {dst : Option Nat} {t t2 ty : Nat} {s x : Operand}
    (e : appendSl mkD (frD w) tab D dst t t2 s x = some D') : ∃ y w', (Builtin.append_ #[t, t2] ty #[a.eval s, a.eval x]).run P w = .ok y w' ∧ Inv cx D' [] (a.put dst y).tmps w' := by
  unfold appendSl at e
  split at e
  case h_2 => cases e
  rename_i _ _ _ el _ _ _ el2 d' d z rows D1 hti hti2 hs
  split at e
  case h_2 => cases e
  rename_i te hte
  split at e
  case h_2 => cases e
  rename_i z2 rows2 D2 hx
  split at e
  case isFalse => cases e
  rename_i hc
  split at e
  case isFalse => cases e
  rename_i hn
  cases e
  obtain ⟨hd, rfl, hz0, hzl, rfl⟩ := hc
  obtain ⟨hbytes, h63⟩ := hn
  obtain ⟨ys, Pd0, I0, G, hv⟩ := I.cellsTake hs
  obtain ⟨k2, d2, P2, I1, hy2, hH2, hown2, hcnt2⟩ := appX_sound I0 hx
  have hu := ti_slice (Tab.ok ok hti) rfl
  have hu2 := ti_slice (Tab.ok ok hti2) rfl
  obtain ⟨i, dd, zv, g1, g2', g3', g4, g5, g2, g7, g3⟩ := ti_info (Tab.ok ok hte)
  have hzs : zv.cells.size = te.size := by rw [← hzl, g2]; simp [zerosOf]
  simp only [ValIs, Bool.false_eq_true, if_false] at hv
  subst hv
  have hy : VT (.s .own d te.size rows) (a.eval s) := G.v.2 0 _ _ rfl rfl
  have hH := G.holds _ (List.mem_singleton_self _)
  have hO := G.own _ (List.mem_singleton_self _) rfl
  have hcnt0 : ∀ b, (bl (.s .own d te.size rows : DT)).count b ≤ cntP Pd0 b := fun b => by
    have := G.cnt b
    simpa [ownR, T.isOwn] using this
  generalize hPd : P2 ++ Pd0 = Pd at I1
  have hcnt : ∀ b, (bl (.s .own d te.size rows : DT)).count b + (rows2.flatMap (fun x => x.flatMap bl)).count b ≤ cntP Pd b := fun b => by
    have h1 := hcnt0 b
    have h2 := hcnt2 b
    rw [← hPd, cntP_append, Nat.add_comm (cntP P2 b)]
    exact Nat.add_le_add h1 h2
  obtain ⟨olds, R1, o1, c1⟩ := hH.cells (by omega)
  obtain ⟨news, R2, o2, c2⟩ := hH2.cells (by omega)
  have hhold2 : ∀ (i : Nat) (row : List DT) (j : Nat) (u : DT), rows2[i]? = some row → row[j]? = some u → Holds w u := fun i row j u h1 h2 => by
    cases hH2 with
    | e => simp at h1
    | s _ _ _ _ _ _ c' e' f' hb' _ _ hv' hh' => exact hh' i row j u h1 h2
  have hexs : a.eval s = .slice d.addr rows.length d.cap := hy
  have hexx : a.eval x = .slice d2.addr rows2.length d2.cap := hy2
  have hnl : news.length = rows2.length * i.size := by rw [g4]; exact R2.len
  -- what is appended
  have src : ∀ w0 : World, (∀ a, w0.cell? a = w.cell? a) → Src P i.size t2 (a.eval x) rows2.length news w0 := by
    intro w0 hw0
    rw [hexx]
    rcases c2 with ⟨rfl, rfl⟩ | ⟨q1, q2, q3⟩
    · cases hda : d2.addr with
      | none => exact Src.ofNil w0 hu2 d2.cap
      | some ad => exact Src.ofSlice w0 hu2 ad 0 d2.cap [] (by simp) (fun j u h => by simp at h) (fun u h => by cases h)
    · have hda : d2.addr = some ⟨d2.b, d2.o, none⟩ := by rw [Dec.addr_none q2, q1]; rfl
      rw [hda]
      exact Src.ofSlice w0 hu2 _ _ _ news hnl (fun j u h => by rw [hw0, Addr.add_lit]; exact q3 j u h) o2
  have hS := src w (fun _ => rfl)
  by_cases hroom : rows.length + rows2.length ≤ d.cap
  · -- there is room
    have happ : (frD w).app d rows.length rows2.length el = d := by simp only [frD]; rw [if_pos hroom]
    rw [happ]
    cases hO with
    | nil _ _ hnil hsp hcap =>
      rw [hcap] at hroom
      have h2 : rows2 = [] := List.length_eq_zero_iff.1 (by have h := hroom; rw [List.length_nil] at h; omega)
      subst h2
      have hnews : news = [] := List.length_eq_zero_iff.1 (by rw [R2.len]; simp)
      subst hnews
      have hda : d.addr = none := by rw [Dec.addr_none hsp, hnil]; rfl
      refine ⟨a.eval s, w, ?_, ?_⟩
      · rw [hexs, hda, hcap]
        have hk := hS.kind
        have hc0 : (Builtin.firstCells i.size 0 (a.eval x)).run P w = .ok #[] w := by simpa using hS.cells
        rcases hk with ⟨e', hk⟩ | hk <;>
          simp [Builtin.append_, run_underlying hu, run_underlying hk, sizeOf, typeInfo, g1, hS.len, hc0]
      · have hG : Got cx D2 w Pd [(.s .own d te.size [] : DT)] [a.eval s] := ⟨G.v, G.holds, G.own, fun u hu => by rw [List.mem_singleton] at hu; subst hu; trivial, fun b => by
          have h1 := G.cnt b
          have h3 : cntP Pd b = cntP P2 b + cntP Pd0 b := by rw [← hPd, cntP_append]
          omega⟩
        exact I1.putGot (g := false) (s := .one (.s .own d te.size ([] ++ []))) hG (by simp [ValIs]) rfl (fun t' h => by cases h; exact hd) rfl
    | s _ _ _ hnil hsp c ec lo hi hb hcap hroom' hfr hho =>
      have hda : d.addr = some ⟨d.b, d.o, none⟩ := by rw [Dec.addr_none hsp, hnil]; rfl
      have hle : (rows.length + rows2.length) * te.size ≤ d.cap * te.size := Nat.mul_le_mul_right _ hroom
      rw [Nat.add_mul] at hle
      have hnl' : news.length = rows2.length * te.size := R2.len
      have hfit : d.o + rows.length * te.size + news.length ≤ c.size := by omega
      have hrun := run_append_room_src (P := P) w t t2 ty el i hu g1 d.b d.o rows.length d.cap (a.eval x) rows2.length news hS hroom
        (fun j hj => by rw [cell_of hb, g4, Array.getElem?_eq_getElem (by omega)]; rfl)
        (fun j hj => by
          have hx := hfr (d.o + rows.length * te.size + j) (by omega) (by omega)
          rw [g4]
          simp only [World.frozen?, hb]
          simp
          omega)
      rw [← hda, ← hexs, g4] at hrun
      obtain ⟨f1, f2, f3, f4, f5, f6⟩ := setCells_facts d.b ec (lo, hi) news (d.o + rows.length * te.size) w c hb hfit
      generalize hw' : w.setCells d.b (d.o + rows.length * te.size) news = w' at hrun f1 f2 f3 f4 f5 f6
      have hdbn : d.b ∈ bl (.s .own d te.size rows : DT) := mem_bl_head hnil
      have hB : 0 < cntP Pd d.b := Nat.lt_of_lt_of_le (List.count_pos_iff.2 hdbn) (by have := hcnt d.b; omega)
      have hone : (bl (.s .own d te.size rows : DT)).count d.b + (rows2.flatMap (fun x => x.flatMap bl)).count d.b ≤ 1 := Nat.le_trans (hcnt d.b) (by have := I1.once d.b; omega)
      have hbelow : ∀ (i' : Nat) (row' : List DT) (j : Nat) (u : DT), rows[i']? = some row' → row'[j]? = some u → d.b ∉ bl u := by
        intro i' row' j u h1 h2 hm
        have q1 := bl_le (k := .own) (d := d) (z := te.size) h1 h2 d.b
        rw [hnil] at q1
        simp only [Bool.false_eq_true, if_false] at q1
        have q3 : 0 < (bl u).count d.b := List.count_pos_iff.2 hm
        simp at q1; omega
      have hbelow2 : ∀ (i' : Nat) (row' : List DT) (j : Nat) (u : DT), rows2[i']? = some row' → row'[j]? = some u → d.b ∉ bl u := by
        intro i' row' j u h1 h2 hm
        have q0 : 0 < (bl (.s .own d te.size rows : DT)).count d.b := List.count_pos_iff.2 hdbn
        have q1 : 0 < (rows2.flatMap (fun x => x.flatMap bl)).count d.b := List.count_pos_iff.2 (List.mem_flatMap.2 ⟨row', List.mem_of_getElem? h1, List.mem_flatMap.2 ⟨u, List.mem_of_getElem? h2, hm⟩⟩)
        omega
      have gx : GrewX d.b w w' := ⟨f4, f5, f6, by omega, fun b hb' _ => f2 b hb'⟩
      have hcl : d.o + rows.length * te.size + news.length ≤ c.toList.length := by simpa using hfit
      have hzrow : ∀ (i' : Nat) (row : List DT), (rows ++ rows2)[i']? = some row → row.length = te.size := fun i' row h => (R1.append R2).row i' row h
      have hcase : ∀ (i' : Nat) (row : List DT) (j : Nat) (u : DT), (rows ++ rows2)[i']? = some row → row[j]? = some u →
          (rows[i']? = some row ∧ i' < rows.length) ∨ (rows2[i' - rows.length]? = some row ∧ rows.length ≤ i') := by
        intro i' row j u h1 h2
        rcases Nat.lt_or_ge i' rows.length with q | q
        · rw [List.getElem?_append_left q] at h1; exact .inl ⟨h1, q⟩
        · rw [List.getElem?_append_right q] at h1; exact .inr ⟨h1, q⟩
      have hval : ∀ (i' : Nat) (row : List DT) (j : Nat) (u : DT), (rows ++ rows2)[i']? = some row → row[j]? = some u → ∃ y, ((spliceAt c.toList (d.o + rows.length * te.size) news).toArray)[d.o + i' * te.size + j]? = some y ∧ VT u y := by
        intro i' row j u h1 h2
        have hjz : j < te.size := by
          have := hzrow i' row h1
          rcases Nat.lt_or_ge j row.length with q | q
          · omega
          · rw [List.getElem?_eq_none q] at h2; cases h2
        simp only [List.getElem?_toArray]
        rcases hcase i' row j u h1 h2 with ⟨q1, q2⟩ | ⟨q1, q2⟩
        · have hlt := mul_lt_of q2 hjz
          cases hH with
          | e => simp at q2
          | s _ _ _ _ _ _ c' e' f' hb' _ _ hv' _ =>
            rw [hb] at hb'; cases hb'
            obtain ⟨y, y1, y2⟩ := hv' i' row j u q1 h2
            refine ⟨y, ?_, y2⟩
            rw [splice_out hcl (by omega)]
            simpa using y1
        · obtain ⟨y, y1, y2⟩ := R2.val _ row j u q1 h2
          refine ⟨y, ?_, y2⟩
          have e1 : (i' - rows.length) * te.size = i' * te.size - rows.length * te.size := Nat.sub_mul _ _ _
          have e2 : rows.length * te.size ≤ i' * te.size := Nat.mul_le_mul_right _ q2
          have hlt : i' * te.size - rows.length * te.size + j < news.length := by
            rcases Nat.lt_or_ge ((i' - rows.length) * te.size + j) news.length with p | p
            · omega
            · rw [List.getElem?_eq_none p] at y1; cases y1
          rw [splice_get hcl, if_neg (by omega), if_pos (by omega)]
          rw [show d.o + i' * te.size + j - (d.o + rows.length * te.size) = (i' - rows.length) * te.size + j by omega]
          exact y1
      have hframe : ∀ u : DT, d.b ∉ bl u → ∀ b ∈ bl u, b < w.heap.size → w'.heap[b]? = w.heap[b]? := fun u hu b hb' _ => f2 b (fun e => hu (e ▸ hb'))
      have hsub : ∀ (i' : Nat) (row : List DT) (j : Nat) (u : DT), (rows ++ rows2)[i']? = some row → row[j]? = some u → Holds w' u ∧ OwnT w' u := by
        intro i' row j u h1 h2
        rcases hcase i' row j u h1 h2 with ⟨q1, q2⟩ | ⟨q1, q2⟩
        · have hnb := hbelow i' row j u q1 h2
          refine ⟨?_, (hho i' row j u q1 h2).frame (hframe u hnb)⟩
          cases hH with
          | e => simp at q2
          | s _ _ _ _ _ _ c' e' f' hb' _ _ hv' hh' => exact (hh' i' row j u q1 h2).frame (hframe u hnb)
        · have hnb := hbelow2 _ row j u q1 h2
          exact ⟨(hhold2 _ row j u q1 h2).frame (hframe u hnb), (hown2 _ row j u q1 h2).frame (hframe u hnb)⟩
      have hH' : Holds w' (.s .own d te.size (rows ++ rows2)) := .s _ _ _ _ hnil hsp _ ec (lo, hi) f1 (by simpa using hroom) hzrow hval (fun i' row j u h1 h2 => (hsub i' row j u h1 h2).1)
      have hO' : OwnT w' (.s .own d te.size (rows ++ rows2)) := .s _ _ _ hnil hsp _ ec lo hi f1 (by simpa using hroom) (by
          simp only [List.size_toArray]
          rw [splice_len hcl]
          simpa using hroom') hfr (fun i' row j u h1 h2 => (hsub i' row j u h1 h2).2)
      have hVT : VT (.s .own d te.size (rows ++ rows2)) (.slice d.addr (rows.length + rows2.length) d.cap) := by simp [VT]
      have hcnt' : ∀ b, (bl (.s .own d te.size (rows ++ rows2) : DT)).count b ≤ cntP Pd b := fun b => by
        have := hcnt b
        rw [bl_s, List.count_append] at this ⊢
        rw [List.flatMap_append, List.count_append, ← Nat.add_assoc]
        exact this
      have I2 := I1.pendWrite (P := Pd) hB gx hVT hH' hO' rfl hcnt'
      refine ⟨_, w', hrun, ?_⟩
      refine I2.putGot (g := false) (ts := [.s .own d te.size (rows ++ rows2)]) (ys := [.slice d.addr (rows.length + rows2.length) d.cap]) ⟨.one hVT, fun u hu => ?_, fun u hu _ => ?_, fun u hu => ?_, fun b => ?_⟩ (by simp [ValIs]) rfl (fun t' h => by cases h; exact hd) rfl
      · rw [List.mem_singleton] at hu; subst hu; exact hH'
      · rw [List.mem_singleton] at hu; subst hu; exact hO'
      · rw [List.mem_singleton] at hu; subst hu; trivial
      · simp [cntP]
  · -- there is none
    have happ : (frD w).app d rows.length rows2.length el = ⟨w.heap.size, 0, grownCap w (rows.length + rows2.length) d.cap el, false, none⟩ := by simp only [frD]; rw [if_neg hroom]
    rw [happ]
    have hfit := growslice_fits (need := rows.length + rows2.length) (old := d.cap) (bytes := te.bytes) (by omega) hbytes
    have hold : (Builtin.firstCells i.size rows.length (.slice d.addr rows.length d.cap)).run P w.drew = .ok olds.toArray w.drew := by
      rcases c1 with ⟨rfl, rfl⟩ | ⟨q1, q2, q3⟩
      · cases hda : d.addr with
        | none => exact run_firstCells_none w.drew _ _ _ _
        | some ad => exact run_firstCells_some w.drew i.size 0 ad 0 d.cap [] (by simp) (fun j u h => by simp at h)
      · have hda : d.addr = some ⟨d.b, d.o, none⟩ := by rw [Dec.addr_none q2, q1]; rfl
        rw [hda]
        exact run_firstCells_some w.drew i.size rows.length _ _ _ olds (by rw [g4]; exact R1.len) (fun j u h => by rw [Addr.add_lit]; exact q3 j u h)
    have hrun := run_append_grow_src (P := P) w t t2 ty el i zv hu g1 g3' d.addr rows.length d.cap olds hold (a.eval x) rows2.length news hS (by omega) (by omega) (by rw [g5]; exact hfit)
    rw [← hexs] at hrun
    have hge := grownCap_ge w (rows.length + rows2.length) d.cap el
    generalize hgc : grownCap w (rows.length + rows2.length) d.cap el = gc at hrun hge
    have R := R1.append R2
    generalize hcs : (olds ++ news).toArray ++ Builtin.zeroCells zv.cells (gc - (rows.length + rows2.length)) = cells at hrun
    have hsize : cells.size = gc * te.size := by
      rw [← hcs, Array.size_append, size_zeroCells, hzs, List.size_toArray, R.len, ← Nat.add_mul]
      congr 1
      simp
      omega
    have g := (Grew.drew w).trans (Grew.alloc w.drew (.cells cells el))
    have hnew : (w.drew.alloc (.cells cells el)).heap[w.heap.size]? = some (.cells cells el (0, 0)) := by
      show (w.heap.push _)[w.heap.size]? = _
      simp
    have hcell : ∀ (j : Nat) (u : Value), (olds ++ news)[j]? = some u → cells[j]? = some u := by
      intro j u h
      have hlt : j < (olds ++ news).length := by
        rcases Nat.lt_or_ge j (olds ++ news).length with q | q
        · exact q
        · rw [List.getElem?_eq_none q] at h; cases h
      rw [← hcs, Array.getElem?_append_left (by simpa using hlt)]
      simpa using h
    have hsub : ∀ (i' : Nat) (row : List DT) (j : Nat) (u : DT), (rows ++ rows2)[i']? = some row → row[j]? = some u → Holds (w.drew.alloc (.cells cells el)) u ∧ OwnT (w.drew.alloc (.cells cells el)) u := by
      intro i' row j u h1 h2
      rcases Nat.lt_or_ge i' rows.length with q | q
      · rw [List.getElem?_append_left q] at h1
        refine ⟨?_, ?_⟩
        · cases hH with
          | e => simp at q
          | s _ _ _ _ _ _ c' e' f' hb' _ _ hv' hh' => exact (hh' i' row j u h1 h2).frame fun b _ hb => g.same b hb
        · cases hO with
          | nil => simp at q
          | s _ _ _ _ _ _ _ _ _ _ _ _ _ hho => exact (hho i' row j u h1 h2).frame fun b _ hb => g.same b hb
      · rw [List.getElem?_append_right q] at h1
        exact ⟨(hhold2 _ row j u h1 h2).frame fun b _ hb => g.same b hb, (hown2 _ row j u h1 h2).frame fun b _ hb => g.same b hb⟩
    have hH' : Holds (w.drew.alloc (.cells cells el)) (.s .own ⟨w.heap.size, 0, gc, false, none⟩ te.size (rows ++ rows2)) := by
      refine .s _ _ _ _ rfl rfl _ el (0, 0) hnew (by simpa using hge) R.row (fun i' row j u h1 h2 => ?_) (fun i' row j u h1 h2 => (hsub i' row j u h1 h2).1)
      obtain ⟨y, y1, y2⟩ := R.val i' row j u h1 h2
      exact ⟨y, by simpa using hcell _ _ y1, y2⟩
    have hO' : OwnT (w.drew.alloc (.cells cells el)) (.s .own ⟨w.heap.size, 0, gc, false, none⟩ te.size (rows ++ rows2)) :=
      .s _ _ _ rfl rfl _ el 0 0 hnew (by simpa using hge) (by simp [hsize]) (fun x _ _ h => by omega) (fun i' row j u h1 h2 => (hsub i' row j u h1 h2).2)
    refine ⟨_, _, hrun, I1.newRows (P := Pd) g (by simp) (d := ⟨w.heap.size, 0, gc, false, none⟩) ⟨rfl, rfl⟩ hH' hO' (fun b => ?_) hd (by simp [VT, Dec.addr])⟩
    rw [List.flatMap_append, List.count_append]
    have := hcnt b
    rw [bl_s, List.count_append] at this
    exact Nat.le_trans (Nat.add_le_add_right (Nat.le_add_left _ _) _) this
end Go.Proofs.Ytalapefcbodhaaa.Am
namespace Go.Proofs.Ytalapefcbodhaaa.Am
set_option linter.unusedVariables false
set_option linter.unusedSimpArgs false
open Go

section
variable {δ β : Type}
def numsOf : List (List (T δ)) → Option (List Int)
  | [] => some []
  | [.v (.int .u8 n)] :: r => (numsOf r).map fun l => n :: l
  | _ :: _ => none
def bytesStr (M : Mk δ β) (tab : Tab) (D : St δ β) (src dst : Nat) (x : Operand) : Option (List (List (T δ))) :=
  match tab.ti src, tab.ti dst, cellsCopy M D x with
  | some ⟨_, _, _, .slice e⟩, some ⟨_, _, _, .str⟩, some (false, [.s _ _ 1 rows]) =>
    match tab.ti e with | some ⟨_, _, _, .int .u8⟩ => some rows | _ => none
  | _, _, _ => none
end

theorem numsOf_spec : ∀ {rows : List (List DT)} {xs : List Int}, numsOf rows = some xs → rows = xs.map fun n => [.v (.int .u8 n)]
  | [], xs, h => by cases h; rfl
  | r :: rs, xs, h => by
    unfold numsOf at h
    split at h
    · rename_i h0; cases h0
    · rename_i n r' h0
      cases h0
      rw [Option.map_eq_some_iff] at h
      obtain ⟨l, h1, rfl⟩ := h
      rw [numsOf_spec h1]; rfl
    · cases h
theorem bytesStr_sound {P : Program} {tab : Tab} (ok : TabOk P tab) {cx : Cx} {D : DSt} {a : Act} {w : World} (I : Inv cx D [] a.tmps w) {src dst : Nat} {x : Operand} {rows : List (List DT)} {xs : List Int}
    (e : bytesStr mkD tab D src dst x = some rows) (hn : numsOf rows = some xs) : (convert src dst (a.eval x)).run P w = .ok (.string (strOfNums xs)) w := by
  unfold bytesStr at e
  split at e
  case h_2 => cases e
  rename_i _ _ _ el _ _ _ k d rows' hs hd hx
  split at e
  case h_2 => cases e
  rename_i he
  cases e
  obtain ⟨ys, G, hv⟩ := I.cellsCopy hx
  simp only [ValIs, Bool.false_eq_true, if_false] at hv
  subst hv
  have hu := ti_slice (Tab.ok ok hs) rfl
  have hdst := ti_str (Tab.ok ok hd) rfl
  have hel := ti_int (Tab.ok ok he) rfl
  have hy : VT (.s k d 1 rows) (a.eval x) := G.v.2 0 _ _ rfl rfl
  have hH := G.holds _ (List.mem_singleton_self _)
  have hr := numsOf_spec hn
  obtain ⟨cs, R, o1, c1⟩ := hH.cells (by omega)
  have hlen : rows.length = xs.length := by rw [hr]; simp
  have hexx : a.eval x = .slice d.addr rows.length d.cap := hy
  rw [hexx]
  rcases c1 with ⟨h0, h1⟩ | ⟨q1, q2, q3⟩
  · have hx0 : xs = [] := List.length_eq_zero_iff.1 (by rw [← hlen, h0]; rfl)
    subst hx0
    rw [h0]
    cases hda : d.addr with
    | none => exact run_convert_bytes_nil w src el hu hel 0 d.cap dst hdst
    | some ad =>
      have hsp : (convert src dst (.slice (some ad) 0 d.cap)).run P w = .ok (.string (strOfNums [])) w := by
        obtain ⟨b, o, sp⟩ := ad
        rw [run_convert_bytes_string w src dst el _ 0 d.cap hu hel hdst]
        rw [run_bytesToString w ⟨b, o, sp⟩ 0 d.cap [] (run_loadCells_list w ⟨b, o, sp⟩ [] (fun j v h => by simp at h))]
        rfl
      exact hsp
  · have hda : d.addr = some ⟨d.b, d.o, none⟩ := by rw [Dec.addr_none q2, q1]; rfl
    rw [hda]
    refine run_convert_bytes_arg w src el hu hel d.b d.o rows.length d.cap xs hlen.symm (fun i hi => ?_) dst hdst
    have hrow : rows[i]? = some [.v (.int .u8 (xs.getD i 0))] := by
      rw [hr, List.getElem?_map, List.getD_eq_getElem?_getD, List.getElem?_eq_getElem (by omega)]
      rfl
    obtain ⟨y, y1, y2⟩ := R.val i _ 0 _ hrow rfl
    rw [show y = _ from y2.1] at y1
    have := q3 (i * 1 + 0) _ y1
    rw [show d.o + (i * 1 + 0) = d.o + i by omega] at this
    exact this

section
variable {δ β : Type}
def strRows (s : ByteArray) : List (List (T δ)) := s.data.toList.map fun b => [.v (.int .u8 (b.toNat : Int))]
def strBytesSl (M : Mk δ β) (F : Fresh δ β) (tab : Tab) (D : St δ β) (dst : Option Nat) (src t : Nat) (x : Operand) : Option (St δ β) :=
  match tab.ti src, tab.ti t, dst, opd M.nil D x with
  | some ⟨_, _, _, .str⟩, some ⟨_, _, _, .slice e⟩, some d, some (.one (.v (.string s))) =>
    match tab.ti e with
    | some ⟨1, _, _, .int .u8⟩ => if d < D.length then some (putSl D (some d) (.one (.s .own (F.str s.size e) 1 (strRows s)))) else none
    | _ => none
  | _, _, _, _ => none
end
theorem strBytes_sound {P : Program} {tab : Tab} (ok : TabOk P tab) {cx : Cx} {D D' : DSt} {a : Act} {w : World} (I : Inv cx D [] a.tmps w) {dst : Option Nat} {src t : Nat} {x : Operand}
    (e : strBytesSl mkD (frD w) tab D dst src t x = some D') : ∃ y w', (convert src t (a.eval x)).run P w = .ok y w' ∧ Inv cx D' [] (a.put dst y).tmps w' := by
  unfold strBytesSl at e
  split at e
  case h_2 => cases e
  rename_i _ _ _ _ _ _ el d s hs ht hx
  split at e
  case h_2 => cases e
  rename_i he
  split at e
  case isFalse => cases e
  rename_i hd
  cases e
  have hu := ti_str (Tab.ok ok hs) rfl
  have hu2 := ti_slice (Tab.ok ok ht) rfl
  have hel := ti_int (Tab.ok ok he) rfl
  have hev : a.eval x = .string s := (I.opd hx).val.1
  have hrun := run_bytes_of_string (P := P) w src t el s hu hu2 hel
  rw [← hev] at hrun
  have hge := grownCap_ge w s.size 0 el
  have hF : (frD w).str s.size el = ⟨w.heap.size, 0, grownCap w s.size 0 el, false, none⟩ := rfl
  rw [hF]
  generalize grownCap w s.size 0 el = gc at hrun hge
  have hsize : (bytesRow s gc).size = gc := by
    unfold bytesRow
    have : s.data.size = s.size := rfl
    simp [this]
    omega
  have hat : ∀ j (hj : j < s.data.size), (bytesRow s gc)[j]? = some (.int .u8 (s.data[j].toNat : Int)) := fun j hj => bytesRow_at s gc j hj
  generalize bytesRow s gc = cells at hrun hsize hat
  have g := (Grew.drew w).trans (Grew.alloc w.drew (.cells cells el (cells.size, cells.size + 1)))
  have hnew : (w.drew.alloc (.cells cells el (cells.size, cells.size + 1))).heap[w.heap.size]? = some (.cells cells el (cells.size, cells.size + 1)) := by
    show (w.heap.push _)[w.heap.size]? = _
    simp
  have hrow : ∀ (i : Nat) (row : List DT), (strRows s : List (List DT))[i]? = some row → ∃ h : i < s.data.size, row = [.v (.int .u8 (s.data[i].toNat : Int))] := by
    intro i row h
    unfold strRows at h
    rw [List.getElem?_map, Option.map_eq_some_iff] at h
    obtain ⟨b, h1, rfl⟩ := h
    have hi : i < s.data.size := by
      rcases Nat.lt_or_ge i s.data.toList.length with q | q
      · simpa using q
      · rw [List.getElem?_eq_none q] at h1; cases h1
    refine ⟨hi, ?_⟩
    rw [List.getElem?_eq_getElem (by simpa using hi)] at h1
    cases h1
    simp
  have hlen : (strRows s : List (List DT)).length = s.size := by unfold strRows; simp
  have hH : Holds (w.drew.alloc (.cells cells el (cells.size, cells.size + 1))) (.s .own ⟨w.heap.size, 0, gc, false, none⟩ 1 (strRows s)) := by
    refine .s _ _ _ _ rfl rfl _ el _ hnew (by rw [hlen]; exact hge) (fun i row h => ?_) (fun i row j u h1 h2 => ?_) (fun i row j u h1 h2 => ?_)
    · obtain ⟨_, rfl⟩ := hrow i row h; rfl
    · obtain ⟨hi, rfl⟩ := hrow i row h1
      cases j with
      | zero =>
        simp only [List.getElem?_cons_zero, Option.some.injEq] at h2
        subst h2
        exact ⟨_, by simpa using hat i hi, rfl, rfl⟩
      | succ j => simp at h2
    · obtain ⟨hi, rfl⟩ := hrow i row h1
      cases j with
      | zero => simp only [List.getElem?_cons_zero, Option.some.injEq] at h2; subst h2; exact .v _
      | succ j => simp at h2
  have hO : OwnT (w.drew.alloc (.cells cells el (cells.size, cells.size + 1))) (.s .own ⟨w.heap.size, 0, gc, false, none⟩ 1 (strRows s)) := by
    refine .s _ _ _ rfl rfl _ el _ _ hnew (by rw [hlen]; exact hge) (by simp [hsize]) (fun q h1 h2 h => by simp at h2; omega) (fun i row j u h1 h2 => ?_)
    obtain ⟨hi, rfl⟩ := hrow i row h1
    cases j with
    | zero => simp only [List.getElem?_cons_zero, Option.some.injEq] at h2; subst h2; exact .v _
    | succ j => simp at h2
  refine ⟨_, _, hrun, I.newRows (P := []) g (by simp) (d := ⟨w.heap.size, 0, gc, false, none⟩) ⟨rfl, rfl⟩ hH hO (fun b => ?_) hd (by simp [VT, Dec.addr, hlen])⟩
  have : (strRows s : List (List DT)).flatMap (fun x => x.flatMap Am.bl) = [] := by
    rw [List.flatMap_eq_nil_iff]
    intro row hr
    obtain ⟨i, hi⟩ := List.getElem?_of_mem hr
    obtain ⟨_, rfl⟩ := hrow i row hi
    rfl
  rw [this]; simp
end Go.Proofs.Ytalapefcbodhaaa.Am
namespace Go.Proofs.Ytalapefcbodhaaa.Am
set_option linter.unusedVariables false
set_option linter.unusedSimpArgs false
open Go
section
variable {δ β : Type}
def tupTake (D : St δ β) (x : Operand) (dst : Option Nat) : Option (St δ β) :=
  match x, dst with
  | .tmp t, some d =>
    match D[t]? with
    | some (.tup rs) => if d < D.length ∧ (rs.all fun r => r.2.all T.noLent) = true then some (putSl (D.set t .any) (some d) (.tup rs)) else none
    | _ => none
  | _, _ => none
end
theorem pick_vals : ∀ (us : List DT), (∀ u ∈ us, ∃ v, VT u v) → ∃ vs : List Value, us.length = vs.length ∧ ∀ p ∈ us.zip vs, p.1 ∈ us ∧ VT p.1 p.2
  | [], _ => ⟨[], rfl, fun p hp => by cases hp⟩
  | u :: us, h => by
    obtain ⟨v, hv⟩ := h u (by simp)
    obtain ⟨vs, h1, h2⟩ := pick_vals us fun u hu => h u (by simp [hu])
    refine ⟨v :: vs, by simp [h1], fun p hp => ?_⟩
    rw [List.zip_cons_cons] at hp
    rcases List.mem_cons.1 hp with rfl | hp
    · exact ⟨by simp, hv⟩
    · exact ⟨by simp [(h2 p hp).1], (h2 p hp).2⟩
theorem tupTake_sound {cx : Cx} {D D' : DSt} {a : Act} {w : World} (I : Inv cx D [] a.tmps w) {dst : Option Nat} {x : Operand} (e : tupTake D x dst = some D') : Inv cx D' [] (a.put dst (a.eval x)).tmps w := by
  unfold tupTake at e
  split at e
  case h_2 => cases e
  rename_i t d
  split at e
  case h_2 => cases e
  rename_i rs hD
  split at e
  case isFalse => cases e
  rename_i hc
  cases e
  obtain ⟨hd, hnl⟩ := hc
  have hmem := List.mem_of_getElem? hD
  have hval := I.val t _ hD
  obtain ⟨vs, hy, hlen, hpart⟩ := hval
  have hm := I.mem _ hmem
  have hk : ∀ u ∈ rootsOf (.tup rs : DSl), KindT cx D u := I.kind _ hmem
  have hn : ∀ u ∈ rootsOf (.tup rs : DSl), u.noLent = true := by
    intro u hu
    obtain ⟨r, hr, hu⟩ := List.mem_flatMap.1 hu
    exact List.all_eq_true.1 (List.all_eq_true.1 hnl r hr) u hu
  have hv : ∀ u ∈ rootsOf (.tup rs : DSl), ∃ v, VT u v := by
    intro u hu
    obtain ⟨r, hr, hu⟩ := List.mem_flatMap.1 hu
    obtain ⟨j, hj⟩ := List.getElem?_of_mem hr
    have hjl : j < rs.length := by
      rcases Nat.lt_or_ge j rs.length with q | q
      · exact q
      · rw [List.getElem?_eq_none q] at hj; cases hj
    have hp := hpart j r vs.toList[j] hj (List.getElem?_eq_getElem (by omega))
    unfold VPart at hp
    split at hp
    · obtain ⟨cs, h1, h2, h3⟩ := hp
      obtain ⟨k, hk⟩ := List.getElem?_of_mem hu
      have hkl : k < r.2.length := by
        rcases Nat.lt_or_ge k r.2.length with q | q
        · exact q
        · rw [List.getElem?_eq_none q] at hk; cases hk
      exact ⟨_, h3 k u _ hk (List.getElem?_eq_getElem (by omega))⟩
    · obtain ⟨t', h1, h2⟩ := hp
      rw [h1, List.mem_singleton] at hu
      subst hu
      exact ⟨_, h2⟩
  obtain ⟨ws, hl, hz⟩ := pick_vals _ hv
  have hcz := cntP_zip _ ws hl
  have hb : ∀ b, ((rootsOf (.tup rs : DSl)).flatMap ownR).count b = (ownBl (.tup rs : DSl)).count b := by
    intro b
    show ((rs.flatMap (·.2)).flatMap ownR).count b = (rs.flatMap fun r => r.2.flatMap ownR).count b
    rw [List.flatMap_assoc]
  have I1 := I.swap (Q := (rootsOf (.tup rs : DSl)).zip ws) (s := .any) hD (fun s' hs' => by
      obtain ⟨u, hu⟩ := List.getElem?_of_mem hs'
      exact I.tup_refs hD (I.val u s' hu) (I.kind s' hs')) (fun h => h) trivial
    ⟨fun u hu => (by cases hu), fun u hu => (by cases hu), trivial⟩ (fun u hu => (by cases hu))
    (fun p hp => by
      obtain ⟨h1, h2⟩ := hz p hp
      refine ⟨h2, hm.1 _ h1, hm.2.1 _ h1, fun ho x hx => ?_⟩
      have hk1 := hk _ h1
      have hn1 := hn _ h1
      generalize p.1 = u at *
      cases u with
      | v x => simp [bl] at hx
      | any => simp [bl] at hx
      | s k d z r => cases k <;> first | exact hk1 x hx | (cases hn1; done) | (cases ho; done))
    (fun b => by
      rw [hcz b, hb b, cntP_nil]
      show ([] : List Nat).count b + _ ≤ _
      simp)
  exact Inv.put (P := (rootsOf (.tup rs : DSl)).zip ws) (Q := []) (by rw [List.append_nil]; exact I1) (by simpa using hd) (s := .tup rs) ⟨vs, hy, hlen, hpart⟩ hm (fun u hu => KindT_noLent (hn u hu) (hk u hu)) (fun b => by rw [hcz b, hb b]; exact Nat.le_refl _)
end Go.Proofs.Ytalapefcbodhaaa.Am
namespace Go.Proofs.Ytalapefcbodhaaa.Am
set_option linter.unusedVariables false
set_option linter.unusedSimpArgs false
open Go

section
variable {δ β : Type}
def buildSliceT (M : Mk δ β) (F : Fresh δ β) (tab : Tab) (D : St δ β) (dst : Option Nat) (t len : Nat) (parts : List (Nat × Operand)) : Option (St δ β) :=
  match tab.ti t, dst, parts with
  | some ⟨_, _, _, .slice e⟩, some d, [(0, x)] =>
    match tab.ti e, cellsTake M D x with
    | some te, some (_, us, D1) =>
      if len = 1 ∧ d < D1.length ∧ te.size ≠ 0 ∧ te.zero.length = te.size ∧ te.size ≤ 2 ^ 24 ∧ us.length = te.size ∧ us.all (fun u => u.isOwn || u.flat) = true then
        some (putSl D1 (some d) (.one (.s .own (F.row 1) te.size [us])))
      else none
    | _, _ => none
  | _, _, _ => none
def storeNil (M : Mk δ β) (tab : Tab) (D : St δ β) (t : Nat) (p : Operand) (z : Nat) : Option (St δ β) :=
  match tab.ti t with
  | some ti => if ti.size = 1 then (opd M.nil D p).bind fun p => storeTo D p [.s .own M.nil z []] else none
  | none => none
end

theorem own_or_flat {w : World} {u : DT} (h : (u.isOwn || u.flat) = true) (ho : u.isOwn = true → OwnT w u) : OwnT w u ∧ ownR u = bl u := by
  cases hu : u.isOwn with
  | true => exact ⟨ho hu, by simp [ownR, hu]⟩
  | false =>
    rw [hu, Bool.false_or] at h
    exact ⟨(flat_own h).1, by simp [ownR, hu, flat_bl h]⟩
theorem buildSliceT_sound {P : Program} {tab : Tab} (ok : TabOk P tab) {cx : Cx} {D D' : DSt} {a : Act} {w : World} (I : Inv cx D [] a.tmps w) {dst : Option Nat} {t len : Nat} {parts : Array (Nat × Operand)}
    (e : buildSliceT mkD (frD w) tab D dst t len parts.toList = some D') : ∃ y w', (Instr.buildSlice t len (parts.map fun (i, x) => (i, a.eval x))).run P w = .ok y w' ∧ Inv cx D' [] (a.put dst y).tmps w' := by
  unfold buildSliceT at e
  split at e
  case h_2 => cases e
  rename_i sz by_ ze el d x hti hparts
  split at e
  case h_2 => cases e
  rename_i te gg us D1 hte hx
  split at e
  case isFalse => cases e
  rename_i hc
  cases e
  obtain ⟨rfl, hd, hz0, hzl, hmax, hlen, hall⟩ := hc
  obtain ⟨ys, Pd, I1, G, hv⟩ := I.cellsTake hx
  have hu := ti_slice (Tab.ok ok hti) rfl
  obtain ⟨z, g1, g2, g3⟩ := ti_zero (Tab.ok ok hte) w
  have hs := ti_size (Tab.ok ok hte) w
  have GZ := inj_zero (P := P) (t := el) (w := w) (cx := cx) (D := D) (ys := z.cells.toList) g3
  rw [← g2] at GZ
  have hzs : z.cells.size = te.size := by rw [← hzl, g2]; simp [zerosOf]
  have R0 := RowsAre.init GZ.v (by omega) 1
  rw [hzs] at R0
  have hcells := cells_of_val G hv
  obtain ⟨hle, R⟩ := R0.set (i := 0) (by simp) G.v hlen
  have e2 := G.v.1
  have hrows : (List.replicate 1 (te.zero.map (T.inj nilD))).set 0 us = [us] := rfl
  rw [hrows] at R
  have f1 : Instr.fill (fun i => some (i * te.size, te.size)) ((Array.range (1 * te.size)).map fun i => z.cells[i % te.size]!) [(0, a.eval x)] = some (spliceAt ((Array.range (1 * te.size)).map fun i => z.cells[i % te.size]!).toList (0 * te.size) ys).toArray := by
    simp only [Instr.fill, hcells]
    rw [if_neg (by simp; omega)]
    have h3 := foldl_set_array ys.toArray (0 * te.size) ((Array.range (1 * te.size)).map fun i => z.cells[i % te.size]!) (by simpa using hle)
    rw [h3]
  generalize hcs' : spliceAt ((Array.range (1 * te.size)).map fun i => z.cells[i % te.size]!).toList (0 * te.size) ys = cs' at *
  have hrun : (Instr.buildSlice t 1 (parts.map fun (i, x) => (i, a.eval x))).run P w = .ok (.slice (some ⟨w.heap.size, 0, none⟩) 1 1) (w.alloc (.cells cs'.toArray el)) := by
    have hf2 : Instr.fill (fun i => some (i * te.size, te.size)) ((Array.range (1 * te.size)).map fun i => z.cells[i % te.size]!) (parts.toList.map fun p => (p.1, a.eval p.2)) = some cs'.toArray := by
      rw [hparts]; exact f1
    simp only [Instr.buildSlice, run_underlying hu, Sem.run_bind, Result.andThen_ok, hs]
    rw [if_neg (by omega)]
    simp [g1, hzs]
    have hf3 := hf2
    rw [Nat.one_mul] at hf3
    simp [hf3, hz0, run_newRow']
  have g := Grew.alloc w (.cells cs'.toArray el)
  have hnew : (w.alloc (.cells cs'.toArray el)).heap[w.heap.size]? = some (.cells cs'.toArray el (0, 0)) := by
    show (w.heap.push _)[w.heap.size]? = _
    simp
  have hmem : ∀ (i : Nat) (row : List DT) (j : Nat) (u : DT), [us][i]? = some row → row[j]? = some u → u ∈ us := fun i row j u hi hj => by
    have : row = us := by
      have := List.mem_of_getElem? hi
      simpa using this
    subst this
    exact List.mem_of_getElem? hj
  have hB : ∀ u ∈ us, OwnT w u ∧ ownR u = bl u := fun u hu => own_or_flat (List.all_eq_true.1 hall u hu) (G.own u hu)
  have hH : Holds (w.alloc (.cells cs'.toArray el)) (.s .own ((frD w).row 1) te.size [us]) := by
    refine .s _ _ _ _ rfl rfl _ el (0, 0) hnew (by simp [frD]) R.row (fun i row j t hi hj => ?_) (fun i row j t hi hj => (G.holds t (hmem i row j t hi hj)).frame fun b _ hb => g.same b hb)
    obtain ⟨y, y1, y2⟩ := R.val i row j t hi hj
    exact ⟨y, by simpa [frD] using y1, y2⟩
  have hO : OwnT (w.alloc (.cells cs'.toArray el)) (.s .own ((frD w).row 1) te.size [us]) := by
    refine .s _ _ _ rfl rfl _ el 0 0 hnew (by simp [frD]) (by simp [frD, R.len]) (fun x _ _ h => by omega) (fun i row j t hi hj => ?_)
    exact ((hB t (hmem i row j t hi hj)).1).frame fun b _ hb => g.same b hb
  refine ⟨_, _, hrun, I1.newRows (P := Pd) g (by simp) (d := (frD w).row 1) ⟨rfl, rfl⟩ hH hO (fun b => ?_) hd (by simp [VT, Dec.addr, frD])⟩
  have h1 := G.cnt b
  have h2 : us.flatMap ownR = us.flatMap bl := by rw [List.flatMap_def, List.flatMap_def, List.map_congr_left fun u hu => (hB u hu).2]
  rw [h2] at h1
  simpa using h1
theorem storeNil_sound {P : Program} {tab : Tab} (ok : TabOk P tab) {cx : Cx} {D D' : DSt} {a : Act} {w : World} (I : Inv cx D [] a.tmps w) {t : Nat} {p : Operand} {z : Nat}
    (e : storeNil mkD tab D t p z = some D') : ∃ w', (Instr.storeAt t (a.eval p) (.slice none 0 0)).run P w = .ok () w' ∧ Inv cx D' [] a.tmps w' := by
  unfold storeNil at e
  split at e
  case h_2 => cases e
  rename_i ti hti
  split at e
  case isFalse => cases e
  rename_i hsz
  rw [Option.bind_eq_some_iff] at e
  obtain ⟨ps, hp, e⟩ := e
  refine store_got (g := false) ok I hti (ys := [.slice none 0 0]) ⟨.one ?_, fun u hu => ?_, fun u hu _ => ?_, fun u hu => ?_, fun b => ?_⟩ (by simp [ValIs]) (by simp [hsz]) hp e
  · simp [VT, Dec.addr, mkD, nilD]
  · rw [List.mem_singleton] at hu; subst hu; exact .e _ _ _
  · rw [List.mem_singleton] at hu; subst hu; exact .nil _ _ rfl rfl rfl
  · rw [List.mem_singleton] at hu; subst hu; trivial
  · simp [ownR, T.isOwn, bl_s, mkD, nilD]
end Go.Proofs.Ytalapefcbodhaaa.Am
namespace Go.Proofs.Ytalapefcbodhaaa.Am
set_option linter.unusedVariables false
set_option linter.unusedSimpArgs false
open Go

section
variable {δ β : Type}
def buildT (M : Mk δ β) (tab : Tab) (D : St δ β) (dst : Option Nat) (t : Nat) (parts : List (Nat × Operand)) : Option (St δ β) :=
  match tab.ti t, tab.pl t, parts, dst with
  | some ti, some pl, (i, x) :: r, some d =>
    match pl[i]?, cellsTake M D x with
    | some (off, size), some (_, us, D1) =>
      if us.length = size ∧ off + us.length ≤ (ti.zero.map (T.inj M.nil)).length ∧ d < D1.length then
        (buildCells M D1 pl r (spliceAt (ti.zero.map (T.inj M.nil)) off us)).map fun ts => putSl D1 (some d) (.agg ts)
      else none
    | _, _ => none
  | _, _, _, _ => none
end
theorem Got.spliceP {cx : Cx} {D : DSt} {w : World} {P Q : List (DT × Value)} {ts us : List DT} {xs ys : List Value} (G : Got cx D w P ts xs) (H : Got cx D w Q us ys) {off : Nat} (hl : off + us.length ≤ ts.length) :
    Got cx D w (P ++ Q) (spliceAt ts off us) (spliceAt xs off ys) := by
  refine ⟨G.v.splice H.v hl, fun t ht => ?_, fun t ht => ?_, fun t ht => ?_, fun b => ?_⟩
  · rcases mem_splice ht with h | h
    · exact G.holds t h
    · exact H.holds t h
  · rcases mem_splice ht with h | h
    · exact G.own t h
    · exact H.own t h
  · rcases mem_splice ht with h | h
    · exact G.kind t h
    · exact H.kind t h
  · have h1 := count_splice ownR ts us off b
    have h2 := G.cnt b
    have h3 := H.cnt b
    rw [cntP_append]
    omega
theorem buildCells_soundP {cx : Cx} {D : DSt} {P0 P : List (DT × Value)} {a : Act} {w : World} (I : Inv cx D P0 a.tmps w) (pl : List (Nat × Nat)) : ∀ (parts : List (Nat × Operand)) {ts ts' : List DT} {xs : List Value}, Got cx D w P ts xs →
    buildCells mkD D pl parts ts = some ts' → ∃ ys, Instr.fill (pl.toArray[·]?) xs.toArray (parts.map fun p => (p.1, a.eval p.2)) = some ys.toArray ∧ Got cx D w P ts' ys
  | [], ts, ts', xs, G, e => by cases e; exact ⟨xs, rfl, G⟩
  | (i, x) :: r, ts, ts', xs, G, e => by
    simp only [buildCells] at e
    split at e
    case h_2 => cases e
    rename_i off size g us hp hc
    split at e
    case isFalse => cases e
    rename_i hl
    obtain ⟨ys, H, hv⟩ := I.cellsCopy hc
    have hcells := cells_of_val H hv
    have G2 := G.spliceP H hl.2
    rw [List.append_nil] at G2
    obtain ⟨zs, h1, h2⟩ := buildCells_soundP I pl r G2 e
    refine ⟨zs, ?_, h2⟩
    have e1 := G.v.1
    have e2 := H.v.1
    have hp' : pl.toArray[i]? = some (off, size) := by simpa using hp
    simp only [List.map_cons, Instr.fill, hp', hcells]
    rw [if_neg (by simp; omega)]
    rw [foldl_set_array ys.toArray off xs.toArray (by simp; omega)]
    simpa using h1
theorem buildT_sound {P : Program} {tab : Tab} (ok : TabOk P tab) {cx : Cx} {D D' : DSt} {a : Act} {w : World} (I : Inv cx D [] a.tmps w) {dst : Option Nat} {t : Nat} {parts : Array (Nat × Operand)} (e : buildT mkD tab D dst t parts.toList = some D') :
    ∃ y, (Instr.build t (parts.map fun (i, x) => (i, a.eval x))).run P w = .ok y w ∧ Inv cx D' [] (a.put dst y).tmps w := by
  unfold buildT at e
  split at e
  case h_2 => cases e
  rename_i ti pl i x r d hti hpl hparts
  split at e
  case h_2 => cases e
  rename_i off size gg us D1 hp hx
  split at e
  case isFalse => cases e
  rename_i hc
  rw [Option.map_eq_some_iff] at e
  obtain ⟨ts, h1, rfl⟩ := e
  obtain ⟨hsz, hle, hd⟩ := hc
  obtain ⟨ys, Pd, I1, H, hv⟩ := I.cellsTake hx
  obtain ⟨i', dd, z, g1, g2, g3, g4, g5, g6, g7, g8⟩ := ti_info (Tab.ok ok hti)
  have G := inj_zero (P := P) (t := t) (w := w) (cx := cx) (D := D1) (ys := z.cells.toList) g8
  rw [← g6] at G
  have G2 := G.spliceP H hle
  rw [List.nil_append] at G2
  obtain ⟨zs, h2, H2⟩ := buildCells_soundP I1 pl r G2 h1
  have hcells := cells_of_val H hv
  have hfill : Instr.fill (pl.toArray[·]?) z.cells.toList.toArray (parts.toList.map fun p => (p.1, a.eval p.2)) = some zs.toArray := by
    rw [hparts]
    have e3 : z.cells.toList.length = z.cells.size := by simp
    have e1 : (ti.zero.map (T.inj mkD.nil)).length = z.cells.size := by rw [← e3]; exact G.v.1
    have e2 := H.v.1
    rw [e1] at hle
    have hp' : pl.toArray[i]? = some (off, size) := by simpa using hp
    simp only [List.map_cons, Instr.fill, hp', hcells]
    rw [if_neg (by simp; omega)]
    rw [foldl_set_array ys.toArray off z.cells.toList.toArray (by simp; omega)]
    simpa using h2
  refine ⟨.agg zs.toArray, run_build w t _ _ ?_, ?_⟩
  · have hpp := Tab.okPl ok hpl
    unfold placesOf at hpp
    split at hpp
    · rename_i fs hu
      unfold Program.built
      rw [g1, hu]
      simp only [g3, hpp]
      simpa using hfill
    · cases hpp
  · exact I1.putGot (g := true) (s := .agg ts) H2 (by simp [ValIs]) rfl (fun t' h => by cases h; exact hd) rfl
section
variable {δ β : Type}
def ownsOpd (D : St δ β) : Operand → Bool
  | .tmp t => match D[t]? with | some s => s.isHome | none => false
  | _ => false
def buildT2 (M : Mk δ β) (tab : Tab) (D : St δ β) (dst : Option Nat) (t : Nat) (parts : List (Nat × Operand)) : Option (St δ β) :=
  match tab.ti t, tab.pl t, parts.dropWhile (fun p => !ownsOpd D p.2), dst with
  | some ti, some pl, (i, x) :: r, some d =>
    match pl[i]?, cellsTake M D x, buildCells M D pl (parts.takeWhile (fun p => !ownsOpd D p.2)) (ti.zero.map (T.inj M.nil)) with
    | some (off, size), some (_, us, D1), some ts0 =>
      if us.length = size ∧ off + us.length ≤ ts0.length ∧ d < D1.length ∧ ts0.all T.noLent = true then
        (buildCells M D1 pl r (spliceAt ts0 off us)).map fun ts => putSl D1 (some d) (.agg ts)
      else none
    | _, _, _ => none
  | _, _, _, _ => none
def buildTT (M : Mk δ β) (tab : Tab) (D : St δ β) (dst : Option Nat) (t : Nat) (parts : List (Nat × Operand)) : Option (St δ β) :=
  match buildT M tab D dst t parts with
  | some r => some r
  | none => buildT2 M tab D dst t parts
theorem buildTT_some {M : Mk δ β} {tab : Tab} {D r : St δ β} {dst : Option Nat} {t : Nat} {parts : List (Nat × Operand)} (h : buildT M tab D dst t parts = some r) : buildTT M tab D dst t parts = some r := by
  unfold buildTT
  rw [h]
end
theorem fill_append {pl : Nat → Option (Nat × Nat)} : ∀ (ps qs : List (Nat × Value)) (xs ys : Array Value), Instr.fill pl xs ps = some ys → Instr.fill pl xs (ps ++ qs) = Instr.fill pl ys qs
  | [], qs, xs, ys, h => by simp only [Instr.fill] at h; cases h; rfl
  | (i, v) :: ps, qs, xs, ys, h => by
    rw [List.cons_append]
    unfold Instr.fill at h
    conv => lhs; unfold Instr.fill
    cases hp : pl i with
    | none => rw [hp] at h; cases h
    | some os =>
      obtain ⟨off, size⟩ := os
      rw [hp] at h
      simp only at h ⊢
      split at h
      · cases h
      · rename_i hc
        rw [if_neg hc]
        exact fill_append ps qs _ ys h
theorem buildT2_sound {P : Program} {tab : Tab} (ok : TabOk P tab) {cx : Cx} {D D' : DSt} {a : Act} {w : World} (I : Inv cx D [] a.tmps w) {dst : Option Nat} {t : Nat} {parts : Array (Nat × Operand)} (e : buildT2 mkD tab D dst t parts.toList = some D') :
    ∃ y, (Instr.build t (parts.map fun (i, x) => (i, a.eval x))).run P w = .ok y w ∧ Inv cx D' [] (a.put dst y).tmps w := by
  unfold buildT2 at e
  split at e
  case h_2 => cases e
  rename_i ti pl i x r d hti hpl hparts
  split at e
  case h_2 => cases e
  rename_i off size gg us D1 ts0 hp hx hpre
  split at e
  case isFalse => cases e
  rename_i hc
  rw [Option.map_eq_some_iff] at e
  obtain ⟨ts, h1, rfl⟩ := e
  obtain ⟨hsz, hle, hd, hnl⟩ := hc
  obtain ⟨ys, Pd, I1, H, hv⟩ := I.cellsTake hx
  obtain ⟨i', dd, z, g1, g2, g3, g4, g5, g6, g7, g8⟩ := ti_info (Tab.ok ok hti)
  have G := inj_zero (P := P) (t := t) (w := w) (cx := cx) (D := D) (ys := z.cells.toList) g8
  rw [← g6] at G
  obtain ⟨ys0, hf0, G0⟩ := buildCells_soundP I pl _ G hpre
  have G1 : Got cx D1 w [] ts0 ys0 := ⟨G0.v, G0.holds, G0.own, fun t ht => KindT_noLent (List.all_eq_true.1 hnl t ht) (G0.kind t ht), G0.cnt⟩
  have G2 := G1.spliceP H hle
  rw [List.nil_append] at G2
  obtain ⟨zs, h2, H2⟩ := buildCells_soundP I1 pl r G2 h1
  have hcells := cells_of_val H hv
  have hcut : parts.toList = parts.toList.takeWhile (fun p => !ownsOpd D p.2) ++ (i, x) :: r := by
    rw [← hparts]; exact (List.takeWhile_append_dropWhile).symm
  have hfill : Instr.fill (pl.toArray[·]?) z.cells.toList.toArray (parts.toList.map fun p => (p.1, a.eval p.2)) = some zs.toArray := by
    rw [hcut, List.map_append, fill_append _ _ _ _ hf0]
    have e1 := G0.v.1
    have e2 := H.v.1
    rw [e1] at hle
    have hp' : pl.toArray[i]? = some (off, size) := by simpa using hp
    simp only [List.map_cons, Instr.fill, hp', hcells]
    rw [if_neg (by simp; omega)]
    rw [foldl_set_array ys.toArray off ys0.toArray (by simp; omega)]
    simpa using h2
  refine ⟨.agg zs.toArray, run_build w t _ _ ?_, ?_⟩
  · have hpp := Tab.okPl ok hpl
    unfold placesOf at hpp
    split at hpp
    · rename_i fs hu
      unfold Program.built
      rw [g1, hu]
      simp only [g3, hpp]
      simpa using hfill
    · cases hpp
  · exact I1.putGot (g := true) (s := .agg ts) H2 (by simp [ValIs]) rfl (fun t' h => by cases h; exact hd) rfl
theorem buildTT_sound {P : Program} {tab : Tab} (ok : TabOk P tab) {cx : Cx} {D D' : DSt} {a : Act} {w : World} (I : Inv cx D [] a.tmps w) {dst : Option Nat} {t : Nat} {parts : Array (Nat × Operand)} (e : buildTT mkD tab D dst t parts.toList = some D') :
    ∃ y, (Instr.build t (parts.map fun (i, x) => (i, a.eval x))).run P w = .ok y w ∧ Inv cx D' [] (a.put dst y).tmps w := by
  unfold buildTT at e
  split at e
  · rename_i r h; cases e; exact buildT_sound ok I h
  · exact buildT2_sound ok I e
end Go.Proofs.Ytalapefcbodhaaa.Am
namespace Go.Proofs.Ytalapefcbodhaaa.Am
set_option linter.unusedVariables false
set_option linter.unusedSimpArgs false
open Go

section
variable {δ β : Type}
def putA (D : St δ β) (t : Nat) (x : Sl δ β) : St δ β :=
  match D[t]? with
  | some .any => D.set t x
  | _ => putSl D (some t) x
def putO (D : St δ β) (dst : Option Nat) (x : Sl δ β) : Option (St δ β) :=
  match dst with
  | none => some D
  | some t => if t < D.length then some (putA D t x) else none
def loadTake (M : Mk δ β) (tab : Tab) (D : St δ β) (t : Nat) (x : Operand) : Option (Bool × List (T δ) × St δ β) :=
  match tab.ti t, opd M.nil D x with
  | some ti, some (.pb h 0) =>
    match D[h]? with
    | some (.box _ ts) => if ts.length = ti.size ∧ ti.sh ≠ .other ∧ ti.sh.agg = true ∧ ts.all T.noLent = true then some (true, ts, giveUp h D) else none
    | _ => none
  | _, _ => none
def nilZ (tab : Tab) (ty : Nat) (x : Operand) : Option Nat :=
  match x with
  | .const (.slice none 0 0) => match tab.ti ty with | some ⟨_, _, _, .slice e⟩ => (tab.ti e).map (·.size) | _ => none
  | _ => none
def tupFlat (D : St δ β) (x : Operand) : Option (List (Bool × List (T δ))) :=
  match x with
  | .tmp t => match D[t]? with | some (.tup rs) => if (rs.all fun r => r.2.all T.flat) = true ∧ rs ≠ [] then some rs else none | _ => none
  | _ => none
def appArgs (c : Call) : Option (Nat × Nat × Operand × Operand) :=
  match c.callee, c.args.toList, c.argTypes.toList with
  | .builtin .append, [s, x], [t, t2] => some (t, t2, s, x)
  | _, _, _ => none
def stepG (M : Mk δ β) (F : Fresh δ β) (tab : Tab) (D : St δ β) (o : Oper) (tk : Bool) : Option (St δ β) :=
  match o.op with
  | .store t p x => match o.dst with
    | none => (match nilZ tab t x with | some z => storeNil M tab D t p z | none => storeSl M tab D t p x tk)
    | some _ => none
  | .alloc t => allocSl M F tab D o.dst t
  | .box _ x => boxSl M F D o.dst x tk
  | .move x => match nilZ tab o.type x with
    | some z => putO D o.dst (.one (.s .own M.nil z []))
    | none => match tupFlat D x with
    | some rs => putO D o.dst (.tup rs)
    | none => match (if tk then tupTake D x o.dst else none) with
    | some D' => some D'
    | none => if tk then (cellsTake M D x).bind fun r => match o.dst with | some t => if t < r.2.2.length then (slOf r.1 r.2.1).map fun s => putSl r.2.2 (some t) s else none | none => none
      else (eval1 M tab D o.op).bind fun s => putO D o.dst s
  | .assign x => match nilZ tab o.type x with
    | some z => putO D o.dst (.one (.s .own M.nil z []))
    | none => if tk then (cellsTake M D x).bind fun r => match o.dst with | some t => if t < r.2.2.length then (slOf r.1 r.2.1).map fun s => putSl r.2.2 (some t) s else none | none => none
      else (eval1 M tab D o.op).bind fun s => putO D o.dst s
  | .load t x => if tk then (loadTake M tab D t x).bind fun r => match o.dst with | some t => if t < r.2.2.length then (slOf r.1 r.2.1).map fun s => putSl r.2.2 (some t) s else none | none => none
      else (eval1 M tab D o.op).bind fun s => putO D o.dst s
  | .extract x i => extractSl D o.dst x i
  | .makeFunc fn first caps => match fn with | .func f => if first.toList = [] then (cloSl D f caps.toList).bind fun s => putO D o.dst s else none | _ => none
  | .buildSlice t len parts => if tk then buildSliceT M F tab D o.dst t len parts.toList else buildSliceSl M F tab D o.dst t len parts.toList
  | .makeSlice t l c => makeSliceSl M F tab D o.dst t l c
  | .call c => match appArgs c with
    | some (t, t2, s, x) => appendSl M F tab D o.dst t t2 s x
    | none => (eval1 M tab D o.op).bind fun s => putO D o.dst s
  | .convert src dst x => match bytesStr M tab D src dst x with
    | some rows => (numsOf rows).bind fun xs => putO D o.dst (.one (.v (.string (strOfNums xs))))
    | none => match strBytesSl M F tab D o.dst src dst x with
    | some D' => some D'
    | none => (eval1 M tab D o.op).bind fun s => putO D o.dst s
  | .build t parts => if tk then buildTT M tab D o.dst t parts.toList else (buildSl M tab D t parts.toList).bind fun s => putO D o.dst s
  | op => (eval1 M tab D op).bind fun s => putO D o.dst s
end

theorem Inv.any_refs {cx : Cx} {D : DSt} {P : List (DT × Value)} {tm : Array Value} {w : World} (I : Inv cx D P tm w) {t : Nat} (ha : D[t]? = some .any) {s : DSl} {y : Value} (hv : VS D s y) (hk : KindS cx D s) : ¬ refs t s := by
  have hc : ∀ c, cellAt D t c = none := fun c => by simp [cellAt, ha, homeCells]
  have hroot : ∀ (us : List DT), (∀ u ∈ us, KindT cx D u) → ¬ ∃ u ∈ us, ∃ c fl d z r, u = .s (.lent t c fl) d z r := by
    rintro us h ⟨u, hu, c, fl, d, z, r, rfl⟩
    obtain ⟨t', h1, _⟩ := h _ hu
    rw [hc] at h1; cases h1
  intro hr
  cases s with
  | any => exact hr
  | one u => obtain ⟨c, fl, d, z, r, rfl⟩ := hr; exact hroot [_] (fun u hu => hk u (by simpa [rootsOf] using hu)) ⟨_, List.mem_singleton_self _, c, fl, d, z, r, rfl⟩
  | agg ts => exact hroot ts hk hr
  | box b ts => exact hroot ts hk hr
  | al h c st lo len =>
    simp only [refs] at hr; subst hr
    obtain ⟨d, z, n, a, ⟨t', h1, _⟩, _⟩ := hv
    rw [hc] at h1; cases h1
  | pe h c st i off =>
    simp only [refs] at hr; subst hr
    obtain ⟨d, z, n, ⟨t', h1, _⟩, _⟩ := hv
    rw [hc] at h1; cases h1
  | pb h off =>
    simp only [refs] at hr; subst hr
    obtain ⟨b, ts, h1, _⟩ := hv
    rw [ha] at h1; cases h1
  | im k b ts off =>
    cases k with
    | own => exact hr
    | far => exact hr
    | lent h c fl =>
      simp only [refs] at hr; subst hr
      obtain ⟨t', h1, _⟩ := hk
      rw [hc] at h1; cases h1
  | fni f caps => exact hr
  | clo f hs =>
    obtain ⟨bs, h1, h2, _⟩ := hv
    obtain ⟨i, hi⟩ := List.getElem?_of_mem hr
    obtain ⟨b, hb⟩ : ∃ b, bs[i]? = some b := by
      have : i < hs.length := by
        rcases Nat.lt_or_ge i hs.length with g | g
        · exact g
        · rw [List.getElem?_eq_none g] at hi; cases hi
      exact ⟨_, List.getElem?_eq_getElem (by omega)⟩
    obtain ⟨ts, h3⟩ := h2 i t b hi hb
    rw [ha] at h3; cases h3
  | tup rs =>
    obtain ⟨p, hp, u, hu, c, fl, d, z, r, e⟩ := hr
    exact hroot (rootsOf (.tup rs)) hk ⟨u, List.mem_flatMap.2 ⟨p, hp, hu⟩, c, fl, d, z, r, e⟩

theorem Inv.putA {cx : Cx} {D : DSt} {a : Act} {w : World} (I : Inv cx D [] a.tmps w) {t : Nat} {s : DSl} {y : Value} (ht : t < D.length) (h : Tells cx D w s y) : Inv cx (putA D t s) [] (a.put (some t) y).tmps w := by
  have hown : ∀ b, (ownBl s).count b ≤ cntP [] b := by
    intro b
    have : ownBl s = [] := h.noown
    rw [this]; simp [cntP]
  unfold Am.putA
  split
  · rename_i ha
    exact Inv.fill (P := []) (Q := []) (by simpa using I) ha (fun s' hs' => by
      obtain ⟨u, hu⟩ := List.getElem?_of_mem hs'
      exact I.any_refs ha (I.val u s' hu) (I.kind s' hs')) (I.any_refs ha h.val h.kind) h.val h.mem h.kind hown
  · exact Inv.put (P := []) (Q := []) (by simpa using I) ht h.val h.mem h.kind hown

variable {P : Program} {tab : Tab}
inductive Left1 (cx : Cx) (D' : DSt) (a : Act) (o : Oper) (w' : World) : Next → Prop where
  | value (y : Value) (h : Inv cx D' [] (a.put o.dst y).tmps w') : Left1 cx D' a o w' (.value y)
  | skip (hd : o.dst = none) (h : Inv cx D' [] a.tmps w') : Left1 cx D' a o w' .skip

theorem eval1_step (ok : TabOk P tab) {cx : Cx} {D D' : DSt} {a : Act} {w : World} (I : Inv cx D [] a.tmps w) {o : Oper} (e : ((eval1 mkD tab D o.op).bind fun s => putO D o.dst s) = some D') :
    ∃ nx w', (execOp a.eval o).run P w = .ok nx w' ∧ Left1 cx D' a o w' nx := by
  rw [Option.bind_eq_some_iff] at e
  obtain ⟨s, h1, h2⟩ := e
  obtain ⟨y, h3, h4⟩ := eval1_sound ok I h1
  refine ⟨_, w, h3, .value y ?_⟩
  unfold putO at h2
  split at h2
  · rename_i hd
    cases h2
    rw [hd]; exact I
  · rename_i t hd
    split at h2
    · cases h2
      rw [hd]; exact I.putA ‹_› h4
    · cases h2

theorem put_step {cx : Cx} {D D' : DSt} {a : Act} {w : World} (I : Inv cx D [] a.tmps w) {o : Oper} {s : DSl} {y : Value} (h4 : Tells cx D w s y) (h2 : putO D o.dst s = some D') : Left1 cx D' a o w (.value y) := by
  refine .value y ?_
  unfold putO at h2
  split at h2
  · rename_i hd
    cases h2
    rw [hd]; exact I
  · rename_i t hd
    split at h2
    · cases h2
      rw [hd]; exact I.putA ‹_› h4
    · cases h2
theorem take_step {cx : Cx} {D D' : DSt} {a : Act} {w : World} (I : Inv cx D [] a.tmps w) {x : Operand} {dst : Option Nat}
    (e : ((cellsTake mkD D x).bind fun r => match dst with | some t => if t < r.2.2.length then (slOf r.1 r.2.1).map fun s => putSl r.2.2 (some t) s else none | none => none) = some D') :
    Inv cx D' [] (a.put dst (a.eval x)).tmps w := by
  rw [Option.bind_eq_some_iff] at e
  obtain ⟨⟨g, us, D1⟩, h1, h2⟩ := e
  obtain ⟨ys, Pd, I1, G, hv⟩ := I.cellsTake h1
  simp only at h2
  split at h2
  · rename_i t
    split at h2
    · rename_i ht
      rw [Option.map_eq_some_iff] at h2
      obtain ⟨s, hs, rfl⟩ := h2
      exact I1.putGot G hv hs (fun t' h => by cases h; exact ht) rfl
    · cases h2
  · cases h2

theorem loadTake_step (ok : TabOk P tab) {cx : Cx} {D D' : DSt} {a : Act} {w : World} (I : Inv cx D [] a.tmps w) {o : Oper} {t : Nat} {x : Operand} (hop : o.op = .load t x)
    (e : ((loadTake mkD tab D t x).bind fun r => match o.dst with | some t => if t < r.2.2.length then (slOf r.1 r.2.1).map fun s => putSl r.2.2 (some t) s else none | none => none) = some D') :
    ∃ y, (execOp a.eval o).run P w = .ok (.value y) w ∧ Inv cx D' [] (a.put o.dst y).tmps w := by
  rw [Option.bind_eq_some_iff] at e
  obtain ⟨⟨g, us, D1⟩, h1, h2⟩ := e
  unfold loadTake at h1
  split at h1
  case h_2 => cases h1
  rename_i ti h hti hx
  split at h1
  case h_2 => cases h1
  rename_i b ts hh
  split at h1
  case isFalse => cases h1
  rename_i hc
  cases h1
  obtain ⟨c1, c2, c3, hall⟩ := hc
  have he : eval1 mkD tab D o.op = some (.agg (us.mapIdx fun j u => u.kd (.lent h (0 + j) true))) := by
    rw [hop]
    have hx' : opd mkD.nil D x = some (.pb h 0) := hx
    simp only [eval1, hx', hti]
    rw [if_neg c2]
    simp only [loadSl, boxRange, hh]
    rw [if_pos (by omega), Option.bind_some, if_pos c3]
    have : (us.drop 0).take ti.size = us := by rw [List.drop_zero, ← c1, List.take_length]
    rw [this]
  obtain ⟨y, k1, k2⟩ := eval1_sound ok I he
  refine ⟨y, k1, ?_⟩
  obtain ⟨cs, hy, hvc0⟩ := k2.val
  have hvc : VCells us cs.toList := by
    refine ⟨by simpa using hvc0.1, fun i u v hi hv => ?_⟩
    have := hvc0.2 i (u.kd (.lent h (0 + i) true)) v (by rw [List.getElem?_mapIdx, hi]; rfl) hv
    exact VT_kd.1 this
  have hm := I.mem _ (List.mem_of_getElem? hh)
  have hk := I.kind _ (List.mem_of_getElem? hh)
  have hnl : ∀ v ∈ us, ∀ h c fl d z r, v ≠ .s (.lent h c fl) d z r := by
    intro v hv h c fl d z r g
    have := List.all_eq_true.1 hall v hv
    rw [g] at this; simp [T.noLent] at this
  have hT := Inv.take I (cs := us.zip cs.toList) hh (fun p hp => by
      obtain ⟨i, hi⟩ := List.getElem?_of_mem hp
      rw [List.getElem?_zip_eq_some] at hi
      exact ⟨List.mem_of_getElem? hi.1, List.mem_of_getElem? hi.1, hvc.2 i _ _ hi.1 hi.2⟩)
    (fun p hp => hnl p.1 (List.of_mem_zip hp).1) (fun c => by
      rw [cntP_zip _ _ hvc.1]
      simp only [ownBl]
      rw [List.count_cons]
      omega) (by simp) (by simp)
  have G : Got cx (giveUp h D) w (us.zip cs.toList ++ []) us cs.toList := by
    refine ⟨hvc, hm.1, hm.2.1, fun v hv => ?_, fun c => ?_⟩
    · have hk' := hk v hv
      have := hnl v hv
      cases v with
      | v x => trivial
      | any => trivial
      | s k d z r =>
        cases k with
        | own => trivial
        | far => exact hk'
        | lent h c fl => exact absurd rfl (this h c fl d z r)
    · rw [List.append_nil, cntP_zip _ _ hvc.1]; exact Nat.le_refl _
  simp only at h2
  split at h2
  · rename_i t' hd
    split at h2
    · rename_i ht
      rw [Option.map_eq_some_iff] at h2
      obtain ⟨s, hs, rfl⟩ := h2
      have := Inv.putGot (dst := some t') hT G (by simp only [ValIs, if_true]; exact hy) hs (fun t'' h => by cases h; exact ht) rfl
      rw [hd]; exact this
    · cases h2
  · cases h2
theorem clo_tells {cx : Cx} {D : DSt} {a : Act} {w : World} (I : Inv cx D [] a.tmps w) {f : FuncId} {caps : Array Operand} {s : DSl} (e : cloSl D f caps.toList = some s) : Tells cx D w s (.func (.func f) #[] (caps.map a.eval)) := by
  unfold cloSl at e
  rw [Option.map_eq_some_iff] at e
  obtain ⟨hs, h1, rfl⟩ := e
  have key : ∀ (xs : List Operand) {hs : List Nat}, cloHomes D xs = some hs →
      ∃ bs : List (Nat × Nat), bs.length = hs.length ∧ (∀ (i h : Nat) (b : Nat × Nat), hs[i]? = some h → bs[i]? = some b → ∃ ts, D[h]? = some (.box b ts)) ∧ xs.map a.eval = bs.map fun b => Value.pointer (some ⟨b.1, b.2, none⟩) := by
    intro xs
    induction xs with
    | nil => intro hs h; cases h; exact ⟨[], rfl, fun i h b hi => by simp at hi, rfl⟩
    | cons x xs ih =>
      intro hs h
      simp only [cloHomes, Option.bind_eq_some_iff, Option.map_eq_some_iff] at h
      obtain ⟨h0, hx, hs', hr, rfl⟩ := h
      obtain ⟨bs, b1, b2, b3⟩ := ih hr
      have hone : ∃ (b : Nat × Nat) (ts : List DT), D[h0]? = some (.box b ts) ∧ a.eval x = .pointer (some ⟨b.1, b.2, none⟩) := by
        unfold cloHome at hx
        split at hx
        · rename_i t
          split at hx
          · rename_i b ts hb
            cases hx
            exact ⟨b, ts, hb, I.val _ _ hb⟩
          · rename_i h' hb
            cases hx
            obtain ⟨b, ts, k1, k2⟩ := I.val _ _ hb
            exact ⟨b, ts, k1, k2⟩
          · cases hx
        · cases hx
      obtain ⟨b, ts, k1, k2⟩ := hone
      refine ⟨b :: bs, by simp [b1], fun i h c hi hc => ?_, by simp [b3, k2]⟩
      cases i with
      | zero => simp at hi hc; subst hi; subst hc; exact ⟨ts, k1⟩
      | succ i => simp at hi hc; exact b2 i h c hi hc
  obtain ⟨bs, b1, b2, b3⟩ := key _ h1
  refine ⟨⟨bs, b1, b2, ?_⟩, ⟨fun u hu => by simp [rootsOf] at hu, fun u hu => by simp [rootsO] at hu, trivial⟩, fun u hu => by simp [rootsOf] at hu, rfl⟩
  congr 1
  rw [← Array.toList_inj]
  simpa using b3
theorem appArgs_spec {c : Call} {t t2 : Nat} {s x : Operand} (h : appArgs c = some (t, t2, s, x)) : c.callee = .builtin .append ∧ c.args = #[s, x] ∧ c.argTypes = #[t, t2] := by
  unfold appArgs at h
  split at h
  · rename_i h1 h2 h3
    cases h
    exact ⟨h1, by rw [← Array.toList_inj]; exact h2, by rw [← Array.toList_inj]; exact h3⟩
  · cases h
theorem tup_tells {cx : Cx} {D : DSt} {a : Act} {w : World} (I : Inv cx D [] a.tmps w) {x : Operand} {rs : List (Bool × List DT)} (h : tupFlat D x = some rs) : Tells cx D w (.tup rs) (a.eval x) := by
  unfold tupFlat at h
  split at h
  · rename_i t
    split at h
    · rename_i rs' hr
      split at h
      · rename_i hf
        cases h
        have hm := List.mem_of_getElem? hr
        refine ⟨I.val t _ hr, I.mem _ hm, I.kind _ hm, ?_⟩
        simp only [ownBl, List.flatMap_eq_nil_iff]
        intro r hr' u hu
        have := List.all_eq_true.1 (List.all_eq_true.1 hf.1 r hr') u hu
        cases u with
        | v x => rfl
        | any => rfl
        | s k d z q => cases this
      · cases h
    · cases h
  · cases h
theorem nil_tells {cx : Cx} {D : DSt} {w : World} (z : Nat) : Tells cx D w (.one (.s .own nilD z [])) (.slice none 0 0) := by
  refine ⟨rfl, ⟨fun u hu => ?_, fun u hu _ => ?_, trivial⟩, fun u hu => ?_, ?_⟩
  · simp only [rootsOf, List.mem_singleton] at hu; subst hu; exact .e _ _ _
  · simp only [rootsO, List.mem_singleton] at hu; subst hu; exact .nil _ _ rfl rfl rfl
  · simp only [rootsOf, List.mem_singleton] at hu; subst hu; trivial
  · simp [ownBl, ownR, T.isOwn, bl_s, nilD]
theorem step_sound (ok : TabOk P tab) {cx : Cx} {D D' : DSt} {a : Act} {w : World} (I : Inv cx D [] a.tmps w) {o : Oper} {tk : Bool} (e : stepG mkD (frD w) tab D o tk = some D') :
    ∃ nx w', (execOp a.eval o).run P w = .ok nx w' ∧ Left1 cx D' a o w' nx := by
  unfold stepG at e
  split at e
  · rename_i t p x hop
    split at e
    · rename_i hd
      split at e
      · rename_i z hz
        have hx : a.eval x = .slice none 0 0 := by
          unfold nilZ at hz
          split at hz
          · rfl
          · cases hz
        obtain ⟨w', h1, h2⟩ := storeNil_sound ok I e
        rw [← hx] at h1
        exact ⟨.skip, w', by simp [execOp, hop, h1], .skip hd h2⟩
      · obtain ⟨w', h1, h2⟩ := store_sound ok I e
        exact ⟨.skip, w', by simp [execOp, hop, h1], .skip hd h2⟩
    · cases e
  · rename_i t hop
    obtain ⟨y, w', h1, h2⟩ := alloc_sound ok I e
    exact ⟨.value y, w', by simp [execOp, hop, h1], .value y h2⟩
  · rename_i t x hop
    obtain ⟨y, w', h1, h2⟩ := box_sound (P := P) (t := t) I e
    exact ⟨.value y, w', by simp [execOp, hop, h1], .value y h2⟩
  · rename_i x hop
    split at e
    · rename_i z hz
      have hx : a.eval x = .slice none 0 0 := by
        unfold nilZ at hz
        split at hz
        · rfl
        · cases hz
      exact ⟨.value (a.eval x), w, by simp [execOp, hop], put_step I (hx ▸ nil_tells z) e⟩
    · split at e
      · rename_i rs hr
        exact ⟨.value (a.eval x), w, by simp [execOp, hop], put_step I (tup_tells I hr) e⟩
      · split at e
        · rename_i D2 hs
          cases e
          split at hs
          · exact ⟨.value (a.eval x), w, by simp [execOp, hop], .value _ (tupTake_sound I hs)⟩
          · cases hs
        split at e
        · exact ⟨.value (a.eval x), w, by simp [execOp, hop], .value _ (take_step I e)⟩
        · exact eval1_step ok I e
  · rename_i x hop
    split at e
    · rename_i z hz
      have hx : a.eval x = .slice none 0 0 := by
        unfold nilZ at hz
        split at hz
        · rfl
        · cases hz
      exact ⟨.value (a.eval x), w, by simp [execOp, hop], put_step I (hx ▸ nil_tells z) e⟩
    · split at e
      · exact ⟨.value (a.eval x), w, by simp [execOp, hop], .value _ (take_step I e)⟩
      · exact eval1_step ok I e
  · rename_i t x hop
    split at e
    · obtain ⟨y, h1, h2⟩ := loadTake_step ok I hop e
      exact ⟨.value y, w, h1, .value _ h2⟩
    · exact eval1_step ok I e
  · rename_i x i hop
    obtain ⟨y, h1, h2⟩ := extract_sound (P := P) I e
    exact ⟨.value y, w, by simp [execOp, hop, h1], .value y h2⟩
  · rename_i fn first caps hop
    split at e
    case h_2 => cases e
    rename_i f
    split at e
    case isFalse => cases e
    rename_i hfirst
    rw [Option.bind_eq_some_iff] at e
    obtain ⟨s, h1, h2⟩ := e
    have hf : first = #[] := by rw [← Array.toList_inj]; exact hfirst
    subst hf
    exact ⟨.value _, w, by simp [execOp, hop, Instr.makeFunc], put_step I (clo_tells I h1) h2⟩
  · rename_i t len parts hop
    split at e
    · obtain ⟨y, w', h1, h2⟩ := buildSliceT_sound ok I e
      exact ⟨.value y, w', by simp [execOp, hop, h1], .value y h2⟩
    · obtain ⟨y, w', h1, h2⟩ := buildSlice_sound ok I e
      exact ⟨.value y, w', by simp [execOp, hop, h1], .value y h2⟩
  · rename_i t l c hop
    obtain ⟨y, w', h1, h2⟩ := makeSlice_sound ok I e
    exact ⟨.value y, w', by simp [execOp, hop, h1], .value y h2⟩
  · rename_i c hop
    split at e
    · rename_i t t2 s x hap
      obtain ⟨q1, q2, q3⟩ := appArgs_spec hap
      obtain ⟨y, w', h1, h2⟩ := append_sound (ty := o.type) ok I e
      refine ⟨.value y, w', ?_, .value y h2⟩
      simp [execOp, hop, resolve, invoke, builtin, q1, q2, q3, h1]
    · exact eval1_step ok I e
  · rename_i src dst x hop
    split at e
    · rename_i rows hb
      rw [Option.bind_eq_some_iff] at e
      obtain ⟨xs, h1, h2⟩ := e
      have h3 := bytesStr_sound ok I hb h1
      exact ⟨.value _, w, by simp [execOp, hop, h3], put_step I (.one_v _ rfl) h2⟩
    · split at e
      · rename_i D2 hs
        cases e
        obtain ⟨y, w', h1, h2⟩ := strBytes_sound ok I hs
        exact ⟨.value y, w', by simp [execOp, hop, h1], .value y h2⟩
      · exact eval1_step ok I e
  · rename_i t parts hop
    split at e
    · obtain ⟨y, h3, h4⟩ := buildTT_sound ok I e
      exact ⟨.value y, w, by simp [execOp, hop, h3], .value y h4⟩
    · rw [Option.bind_eq_some_iff] at e
      obtain ⟨s, h1, h2⟩ := e
      obtain ⟨y, h3, h4⟩ := build_sound ok I h1
      exact ⟨.value y, w, by simp [execOp, hop, h3], put_step I h4 h2⟩
  · exact eval1_step ok I e
end Go.Proofs.Ytalapefcbodhaaa.Am
namespace Go.Proofs.Ytalapefcbodhaaa.Am
set_option linter.unusedVariables false
set_option linter.unusedSimpArgs false
open Go

mutual
def T.er : DT → T Unit
  | .v x => .v x
  | .any => .any
  | .s k _ z rows => .s k () z (erRows rows)
def erRow : List DT → List (T Unit)
  | [] => []
  | t :: r => t.er :: erRow r
def erRows : List (List DT) → List (List (T Unit))
  | [] => []
  | r :: rs => erRow r :: erRows rs
end
abbrev erL : List DT → List (T Unit) := List.map T.er
theorem erRow_eq (r : List DT) : erRow r = erL r := by
  induction r with
  | nil => simp [erRow]
  | cons t r ih => simp [erRow, ih]
theorem erRows_eq (r : List (List DT)) : erRows r = r.map erL := by
  induction r with
  | nil => simp [erRows]
  | cons t r ih => simp [erRows, ih, erRow_eq]
theorem er_s (k : Kd) (d : Dec) (z : Nat) (rows : List (List DT)) : (T.s k d z rows : DT).er = .s k () z (rows.map erL) := by
  rw [T.er, erRows_eq]
theorem er_v (x : Value) : (T.v x : DT).er = .v x := rfl
theorem er_any : (T.any : DT).er = .any := rfl

def Sl.er : DSl → Sl Unit Unit
  | .any => .any
  | .one t => .one t.er
  | .agg ts => .agg (erL ts)
  | .box _ ts => .box () (erL ts)
  | .al h c st lo len => .al h c st lo len
  | .pb h off => .pb h off
  | .pe h c st i off => .pe h c st i off
  | .im k _ ts off => .im k () (erL ts) off
  | .fni f caps => .fni f (caps.map fun p => ((), erL p.2))
  | .clo f hs => .clo f hs
  | .tup rs => .tup (rs.map fun r => (r.1, erL r.2))
def erD (D : DSt) : St Unit Unit := D.map Sl.er

theorem er_kd (k : Kd) (t : DT) : (t.kd k).er = t.er.kd k := by
  cases t with
  | s k' d z r => cases k' <;> simp [T.kd, er_s]
  | _ => rfl
theorem er_view (k : Kd) (t : DT) : (t.view k).er = t.er.view k := by
  cases t with
  | s k' d z r => simp [T.view, er_s]
  | _ => rfl
theorem er_isOwn (t : DT) : t.er.isOwn = t.isOwn := by
  cases t with
  | s k' d z r => cases k' <;> simp [T.isOwn, er_s]
  | _ => rfl
theorem er_fine (t : DT) : t.er.fine = t.fine := by
  cases t with
  | s k' d z r => cases k' <;> simp [T.fine, er_s]
  | _ => rfl
theorem er_flat (t : DT) : t.er.flat = t.flat := by
  cases t with
  | s k' d z r => simp [T.flat, er_s]
  | _ => rfl
theorem er_noLent (t : DT) : t.er.noLent = t.noLent := by
  cases t with
  | s k' d z r => cases k' <;> simp [T.noLent, er_s]
  | _ => rfl
theorem er_dead (p : Nat → Nat → Bool) (t : DT) : (t.dead p).er = t.er.dead p := by
  cases t with
  | s k' d z r =>
    cases k' with
    | lent h c fl => simp only [T.dead, er_s]; split <;> simp [er_s, er_any]
    | _ => simp [T.dead, er_s]
  | _ => rfl
theorem erL_dead (p : Nat → Nat → Bool) (ts : List DT) : erL (ts.map (T.dead p)) = (erL ts).map (T.dead p) := by
  simp only [erL, List.map_map]; exact List.map_congr_left fun t _ => er_dead p t
theorem erL_view (k : Kd) (ts : List DT) : erL (ts.map (T.view k)) = (erL ts).map (T.view k) := by
  simp only [erL, List.map_map]; exact List.map_congr_left fun t _ => er_view k t
theorem Sl.er_dead (p : Nat → Nat → Bool) (q : Nat → Nat → Bool → Bool) (s : DSl) : (s.dead p q).er = s.er.dead p q := by
  cases s with
  | one t => simp [Sl.dead, Sl.er, Am.er_dead]
  | agg ts => simp only [Sl.dead, Sl.er, erL_dead]
  | box b ts => simp only [Sl.dead, Sl.er, erL_dead]
  | al h c st lo len => by_cases e : q h c (!st.isEmpty) = true <;> simp [e, Sl.dead, Sl.er]
  | pe h c st lo len => by_cases e : q h c (!st.isEmpty) = true <;> simp [e, Sl.dead, Sl.er]
  | im k b ts off =>
    cases k with
    | lent h c fl => by_cases e : p h c = true <;> simp [e, Sl.dead, Sl.er]
    | _ => simp [Sl.dead, Sl.er]
  | tup rs => simp only [Sl.dead, Sl.er, List.map_map]; congr 1; exact List.map_congr_left fun r _ => by simp only [Function.comp, erL_dead]
  | _ => rfl
theorem Sl.er_gone (t : Nat) (s : DSl) : (s.gone t).er = s.er.gone t := by
  cases s with
  | pb h off => by_cases e : h = t <;> simp [e, Sl.gone, Sl.er]
  | clo f hs => by_cases e : t ∈ hs <;> simp [e, Sl.gone, Sl.er]
  | _ => rfl
theorem erD_dead (p : Nat → Nat → Bool) (q : Nat → Nat → Bool → Bool) (D : DSt) : erD (St.dead p q D) = St.dead p q (erD D) := by
  simp only [St.dead, erD, List.map_map]; exact List.map_congr_left fun s _ => Sl.er_dead p q s
theorem er_len (D : DSt) : (erD D).length = D.length := by simp [erD]
theorem er_get (D : DSt) (t : Nat) : (erD D)[t]? = (D[t]?).map Sl.er := by simp [erD]
theorem er_set (D : DSt) (t : Nat) (s : DSl) : erD (D.set t s) = (erD D).set t s.er := by simp [erD, List.map_set]
theorem er_giveUp (t : Nat) (D : DSt) : erD (giveUp t D) = giveUp t (erD D) := by
  unfold giveUp
  rw [er_set, ← erD_dead]
  congr 1
  simp only [erD, List.map_map]
  exact List.map_congr_left fun s _ => Sl.er_gone t s
theorem er_clean (t : Nat) (s : DSl) : (s.clean t).er = s.er.clean t := by unfold Sl.clean; rw [Sl.er_gone, Sl.er_dead]
theorem er_putSl (D : DSt) (dst : Option Nat) (s : DSl) : erD (putSl D dst s) = putSl (erD D) dst s.er := by
  cases dst with
  | none => rfl
  | some t => simp only [putSl]; rw [er_set, er_giveUp, er_clean]
theorem er_isAny (s : DSl) : s.er = .any ↔ s = .any := by cases s <;> simp [Sl.er]
theorem er_putA (D : DSt) (t : Nat) (s : DSl) : erD (putA D t s) = putA (erD D) t s.er := by
  unfold putA
  rw [er_get]
  cases h : D[t]? with
  | none => exact er_putSl D (some t) s
  | some x => cases x <;> first | exact er_set D t s | exact er_putSl D (some t) s
theorem er_putO (D : DSt) (dst : Option Nat) (s : DSl) : putO (erD D) dst s.er = (putO D dst s).map erD := by
  cases dst with
  | none => rfl
  | some t => simp only [putO, er_len]; split <;> simp [er_putA]
theorem er_homeCells (s : DSl) : homeCells s.er = (homeCells s).map erL := by cases s <;> simp [homeCells, Sl.er]
theorem er_setCells (cs : List DT) (s : DSl) : (setCells cs s).er = setCells (erL cs) s.er := by
  cases s with
  | one t => cases cs <;> simp [setCells, Sl.er, er_any]
  | _ => simp [setCells, Sl.er]
theorem er_cellAt (D : DSt) (h c : Nat) : cellAt (erD D) h c = (cellAt D h c).map T.er := by
  unfold cellAt
  rw [er_get]
  cases D[h]? with
  | none => rfl
  | some s =>
    simp only [Option.map_some, Option.bind_some, er_homeCells]
    cases homeCells s with
    | none => rfl
    | some cs => simp
theorem er_setCellAt (D : DSt) (h c : Nat) (t : DT) : setCellAt (erD D) h c t.er = (setCellAt D h c t).map erD := by
  unfold setCellAt
  rw [er_get]
  cases D[h]? with
  | none => rfl
  | some s =>
    simp only [Option.map_some, er_homeCells]
    cases homeCells s with
    | none => rfl
    | some cs =>
      simp only [Option.map_some, er_set, er_setCells]
      simp [List.map_set]
theorem er_getN : ∀ (st : List (Nat × Nat)) (t : DT), getN t.er st = (getN t st).map T.er
  | [], t => by simp [getN]
  | (i, c) :: st, t => by
    cases t with
    | v x => rfl
    | any => rfl
    | s k d z rows =>
      simp only [er_s, getN, List.getElem?_map]
      cases rows[i]? with
      | none => rfl
      | some row =>
        simp only [Option.map_some, Option.bind_some, List.getElem?_map]
        cases row[c]? with
        | none => rfl
        | some u => simp only [Option.map_some, Option.bind_some]; exact er_getN st u
theorem er_updN {f : DT → Option DT} {f' : T Unit → Option (T Unit)} (hf : ∀ t, f' t.er = (f t).map T.er) : ∀ (st : List (Nat × Nat)) (t : DT), updN f' t.er st = (updN f t st).map T.er
  | [], t => by simp only [updN]; exact hf t
  | (i, c) :: st, t => by
    cases t with
    | v x => rfl
    | any => rfl
    | s k d z rows =>
      simp only [er_s, updN, List.getElem?_map]
      cases rows[i]? with
      | none => rfl
      | some row =>
        simp only [Option.map_some, Option.bind_some, List.getElem?_map]
        cases row[c]? with
        | none => rfl
        | some u =>
          simp only [Option.map_some, Option.bind_some]
          rw [er_updN hf st u]
          cases updN f u st with
          | none => rfl
          | some u' => simp [er_s, List.map_set]
theorem er_nodeAt (D : DSt) (h c : Nat) (st : List (Nat × Nat)) : nodeAt (erD D) h c st = (nodeAt D h c st).map T.er := by
  unfold nodeAt
  rw [er_cellAt]
  cases cellAt D h c with
  | none => rfl
  | some t => simp only [Option.map_some, Option.bind_some]; exact er_getN st t
theorem er_updAt {f : DT → Option DT} {f' : T Unit → Option (T Unit)} (hf : ∀ t, f' t.er = (f t).map T.er) (D : DSt) (h c : Nat) (st : List (Nat × Nat)) :
    updAt f' (erD D) h c st = (updAt f D h c st).map erD := by
  unfold updAt
  rw [er_cellAt]
  cases cellAt D h c with
  | none => rfl
  | some t =>
    simp only [Option.map_some, Option.bind_some]
    rw [er_updN hf]
    cases updN f t st with
    | none => rfl
    | some t' => simp only [Option.map_some, Option.bind_some]; exact er_setCellAt D h c t'
theorem er_copySl (D : DSt) (t : Nat) : copySl (erD D) t = (copySl D t).map Sl.er := by
  unfold copySl
  rw [er_get]
  cases D[t]? with
  | none => rfl
  | some s =>
    cases s with
    | one u =>
      cases u with
      | s k d z rows => cases k <;> simp [Sl.er, er_s]
      | _ => rfl
    | agg ts =>
      simp only [Option.map_some, Sl.er, Option.some.injEq, Sl.agg.injEq]
      apply List.ext_getElem?
      intro i
      simp only [List.getElem?_mapIdx, List.getElem?_map, Option.map_map]
      cases ts[i]? with
      | none => rfl
      | some u => simp [er_kd]
    | _ => rfl
theorem er_opd (D : DSt) (x : Operand) : opd () (erD D) x = (opd nilD D x).map Sl.er := by
  cases x with
  | tmp t => exact er_copySl D t
  | const v =>
    simp only [opd]
    unfold constSl
    split
    · simp [Sl.er, er_s]
    · rfl
    · split <;> simp [Sl.er, er_v]
  | func f => simp [opd, Sl.er]
  | global g => rfl
theorem er_opd1 (D : DSt) (x : Operand) : opd mkU.nil (erD D) x = (opd mkD.nil D x).map Sl.er := er_opd D x
theorem er_boxRange (D : DSt) (h o n : Nat) : boxRange (erD D) h o n = (boxRange D h o n).map erL := by
  unfold boxRange
  rw [er_get]
  cases D[h]? with
  | none => rfl
  | some s =>
    cases s with
    | box b ts => simp only [Option.map_some, Sl.er, List.length_map]; split <;> simp [List.map_take, List.map_drop]
    | _ => rfl
theorem er_rowRange (D : DSt) (h c : Nat) (st : List (Nat × Nat)) (i o n : Nat) : rowRange (erD D) h c st i o n = (rowRange D h c st i o n).map erL := by
  unfold rowRange
  rw [er_cellAt]
  cases cellAt D h c with
  | none => rfl
  | some t =>
    simp only [Option.map_some, er_isOwn]
    split
    · rw [er_getN]
      cases getN t st with
      | none => rfl
      | some u =>
        cases u with
        | s k d z rows =>
          simp only [Option.map_some, er_s, List.getElem?_map]
          cases rows[i]? with
          | none => rfl
          | some row => simp only [Option.map_some, Option.bind_some, List.length_map]; split <;> simp [List.map_take, List.map_drop]
        | _ => rfl
    · rfl
theorem er_loadSl (D : DSt) (ti : TI) (s : DSl) : loadSl (erD D) ti s.er = (loadSl D ti s).map Sl.er := by
  cases s with
  | pb h o =>
    simp only [Sl.er, loadSl, er_boxRange]
    cases boxRange D h o ti.size with
    | none => rfl
    | some cs =>
      simp only [Option.map_some, Option.bind_some]
      split
      · simp only [Option.map_some, Sl.er, Option.some.injEq, Sl.agg.injEq]
        apply List.ext_getElem?
        intro i
        simp only [List.getElem?_mapIdx, List.getElem?_map, Option.map_map]
        cases cs[i]? with
        | none => rfl
        | some u => simp [er_kd]
      · match cs with
        | [] => rfl
        | [u] =>
          cases u with
          | s k d z rows => cases k <;> simp [erL, er_s, Sl.er]
          | _ => rfl
        | u :: v :: r => simp [erL]
  | pe h c st i o =>
    simp only [Sl.er, loadSl, er_rowRange]
    cases rowRange D h c st i o ti.size with
    | none => rfl
    | some cs =>
      simp only [Option.map_some, Option.bind_some]
      split
      · simp only [Option.map_some, Sl.er, erL_view]
      · match cs with
        | [] => rfl
        | [u] =>
          cases u with
          | s k d z rows => cases k <;> simp [erL, er_s, Sl.er, T.view]
          | _ => rfl
        | u :: v :: r => simp [erL]
  | im k b ts o =>
    simp only [Sl.er, loadSl, List.length_map]
    split
    · split
      · simp only [Option.map_some, Sl.er, erL_view, erL, List.map_take, List.map_drop]
      · simp only [erL, ← List.map_drop, ← List.map_take]
        match (ts.drop o).take ti.size with
        | [] => rfl
        | [u] => simp [Sl.er, er_view]
        | u :: v :: r => rfl
    · rfl
  | _ => rfl
end Go.Proofs.Ytalapefcbodhaaa.Am
namespace Go.Proofs.Ytalapefcbodhaaa.Am
set_option linter.unusedVariables false
set_option linter.unusedSimpArgs false
open Go

theorem er_nodeZ (D : DSt) (h c : Nat) (st : List (Nat × Nat)) : nodeZ (erD D) h c st = nodeZ D h c st := by
  unfold nodeZ
  rw [er_nodeAt]
  cases nodeAt D h c st with
  | none => rfl
  | some t =>
    cases t with
    | s k d z rows => simp [er_s]
    | _ => rfl
theorem er_sliceSl (D : DSt) (tab : Tab) (t : Nat) (x : DSl) (lo hi : Option Int) : sliceSl mkU (erD D) tab t x.er lo hi = (sliceSl mkD D tab t x lo hi).map Sl.er := by
  cases x with
  | one u =>
    cases u with
    | v y =>
      cases y <;> simp only [Sl.er, er_v, sliceSl] <;> first | rfl | skip
      split
      · split <;> simp [Sl.er, er_v]
      · rfl
    | any => rfl
    | s k d z rows =>
      simp only [Sl.er, er_s, sliceSl, List.length_map]
      split
      · rfl
      · split
        · split
          · split
            · simp [Sl.er, er_s, mkU]
            · rfl
          · rfl
        · rfl
  | al h c st l len =>
    simp only [Sl.er, sliceSl, er_nodeZ]
    split
    · split
      · split <;> simp [Sl.er]
      · rfl
    · rfl
  | _ => rfl
theorem er_indexAddrSl (D : DSt) (tab : Tab) (t : Nat) (x : DSl) (i : Int) : indexAddrSl mkU (erD D) tab t x.er i = (indexAddrSl mkD D tab t x i).map Sl.er := by
  unfold indexAddrSl
  split
  · cases x with
    | one u =>
      cases u with
      | v y => rfl
      | any => rfl
      | s k d z rows =>
        simp only [Sl.er, er_s, List.getElem?_map]
        split
        · rfl
        · split
          · split
            · cases rows[i.toNat]? with
              | none => rfl
              | some row => simp [Sl.er]
            · rfl
          · rfl
    | al h c st lo len =>
      simp only [Sl.er, er_nodeZ]
      split
      · split <;> simp [Sl.er]
      · rfl
    | _ => rfl
  · rfl
theorem er_fieldAddrSl (tab : Tab) (t : Nat) (x : DSl) (f : Nat) : fieldAddrSl tab t x.er f = (fieldAddrSl tab t x f).map Sl.er := by
  unfold fieldAddrSl
  split
  · rename_i offs _
    cases offs[f]? with
    | none => rfl
    | some o => cases x <;> rfl
  · rfl
theorem er_lenSl (tab : Tab) (t : Nat) (x : DSl) : lenSl tab t x.er = lenSl tab t x := by
  unfold lenSl
  split
  · cases x with
    | one u =>
      cases u with
      | s k d z rows => simp [Sl.er, er_s]
      | _ => rfl
    | _ => rfl
  · cases x with
    | one u =>
      cases u with
      | s k d z rows => simp [Sl.er, er_s]
      | v y => cases y <;> rfl
      | any => rfl
    | _ => rfl
  · rfl
theorem er_ptrSl (x : DSl) : ptrSl x.er = ptrSl x := by cases x <;> rfl

def valOf {δ β : Type} : Option (Sl δ β) → Option Value
  | some (.one (.v x)) => some x
  | _ => none
theorem er_valOf (s : Option DSl) : valOf (s.map Sl.er) = valOf s := by
  cases s with
  | none => rfl
  | some s =>
    cases s with
    | one u =>
      cases u with
      | s k d z rows => simp [Sl.er, er_s, valOf]
      | _ => rfl
    | _ => rfl
theorem er_optInt (D : DSt) (x : Option Operand) : optInt () (erD D) x = optInt nilD D x := by
  cases x with
  | none => rfl
  | some x =>
    simp only [optInt, er_opd]
    cases opd nilD D x with
    | none => rfl
    | some s =>
      cases s with
      | one u =>
        cases u with
        | s k d z rows => simp [Sl.er, er_s]
        | v y => cases y <;> rfl
        | any => rfl
      | _ => rfl
theorem er_optInt1 (D : DSt) (x : Option Operand) : optInt mkU.nil (erD D) x = optInt mkD.nil D x := er_optInt D x
theorem er_evalB (tab : Tab) (D : DSt) (c : Call) : evalB mkU tab (erD D) c = (evalB mkD tab D c).map Sl.er := by
  unfold evalB
  split
  · rename_i x t _ _ _
    rw [er_opd1]
    cases opd mkD.nil D x with
    | none => rfl
    | some s =>
      simp only [Option.map_some, Option.bind_some, er_lenSl]
      cases lenSl tab t s with
      | none => rfl
      | some n => rfl
  · rename_i x y _ _
    simp only [er_opd1]
    cases hx : opd mkD.nil D x with
    | none => rfl
    | some sx =>
      cases hy : opd mkD.nil D y with
      | none => cases sx with
        | one u => cases u with
          | s k d z rows => simp [Sl.er, er_s]
          | v a => cases a <;> rfl
          | any => rfl
        | _ => rfl
      | some sy =>
        cases sx with
        | one u =>
          cases u with
          | s k d z rows => simp [Sl.er, er_s]
          | any => rfl
          | v a =>
            cases sy with
            | one v => cases v with
              | s k d z rows => cases a <;> simp [Sl.er, er_s, er_v]
              | any => cases a <;> rfl
              | v b => cases a <;> cases b <;> rfl
            | _ => cases a <;> rfl
        | _ => rfl
  · rename_i x y _ _
    simp only [er_opd1]
    cases hx : opd mkD.nil D x with
    | none => rfl
    | some sx =>
      cases hy : opd mkD.nil D y with
      | none => cases sx with
        | one u => cases u with
          | s k d z rows => simp [Sl.er, er_s]
          | v a => cases a <;> rfl
          | any => rfl
        | _ => rfl
      | some sy =>
        cases sx with
        | one u =>
          cases u with
          | s k d z rows => simp [Sl.er, er_s]
          | any => rfl
          | v a =>
            cases sy with
            | one v => cases v with
              | s k d z rows => cases a <;> simp [Sl.er, er_s, er_v]
              | any => cases a <;> rfl
              | v b => cases a <;> cases b <;> rfl
            | _ => cases a <;> rfl
        | _ => rfl
  · rfl

theorem er_vAt (us : List DT) (off : Nat) : (erL us)[off]? = (us[off]?).map T.er := by simp [erL]
theorem er_eqCells (tab : Tab) (us vs : List DT) : ∀ l, eqCells tab (erL us) (erL vs) l = eqCells tab us vs l
  | [] => rfl
  | (off, ft) :: r => by
    simp only [eqCells, er_vAt]
    cases tab.ti ft with
    | none => rfl
    | some ti =>
      cases us[off]? with
      | none => rfl
      | some u =>
        cases vs[off]? with
        | none => cases u with
          | s k d z rows => simp [er_s]
          | _ => rfl
        | some v =>
          cases u with
          | s k d z rows => simp [er_s]
          | any => rfl
          | v a =>
            cases v with
            | s k d z rows => simp [er_s, er_v]
            | any => rfl
            | v b => simp only [Option.map_some, er_v, er_eqCells tab us vs r]
theorem er_eqS (tab : Tab) (op : BinOp) (t : Nat) (us vs : List DT) : eqS tab op t (erL us) (erL vs) = eqS tab op t us vs := by
  have : eqCells tab (erL us) (erL vs) = eqCells tab us vs := funext fun l => er_eqCells tab us vs l
  unfold eqS
  rw [this]
theorem er_eval1 (tab : Tab) (D : DSt) (op : Op) : eval1 mkU tab (erD D) op = (eval1 mkD tab D op).map Sl.er := by
  cases op with
  | move x => exact er_opd1 D x
  | assign x => exact er_opd1 D x
  | pick c x y =>
    simp only [eval1, er_opd1]
    cases opd mkD.nil D c with
    | none => rfl
    | some s =>
      cases s with
      | one u =>
        cases u with
        | s k d z rows => simp [Sl.er, er_s]
        | any => rfl
        | v b => cases b <;> first | rfl | skip
                 rename_i b; cases b <;> rfl
      | _ => rfl
  | nilCheck x =>
    simp only [eval1, er_opd1]
    cases opd mkD.nil D x with
    | none => rfl
    | some s => simp only [Option.map_some, Option.bind_some, er_ptrSl]; split <;> rfl
  | binOp op t x y ty =>
    simp only [eval1, er_opd1]
    cases hx : opd mkD.nil D x with
    | none => rfl
    | some sx =>
      cases hy : opd mkD.nil D y with
      | none => cases sx with
        | one u => cases u with
          | s k d z rows => simp [Sl.er, er_s]
          | v a => first | rfl | (cases a <;> rfl)
          | any => rfl
        | _ => rfl
      | some sy =>
        cases sx with
        | one u =>
          cases u with
          | s k d z rows => simp [Sl.er, er_s]
          | any => rfl
          | v a =>
            cases sy with
            | one v => cases v with
              | s k d z rows => first | (simp [Sl.er, er_s, er_v]; done) | (cases a <;> simp [Sl.er, er_s, er_v])
              | any => first | rfl | (cases a <;> rfl)
              | v b => simp only [Option.map_some, Sl.er, er_v, Option.map_map]; rfl
            | _ => first | rfl | (cases a <;> rfl)
        | agg us =>
          cases sy with
          | agg vs =>
            simp only [Option.map_some, Sl.er, er_eqS, Option.map_map]
            rfl
          | one v => cases v <;> rfl
          | _ => rfl
        | _ => rfl
  | unOp op t x =>
    simp only [eval1, er_opd1]
    cases opd mkD.nil D x with
    | none => rfl
    | some s =>
      cases s with
      | one u =>
        cases u with
        | s k d z rows => simp [Sl.er, er_s]
        | any => rfl
        | v b => cases b <;> first | rfl | (cases op <;> rfl)
      | _ => rfl
  | convert src dst x =>
    simp only [eval1, er_opd1]
    cases opd mkD.nil D x with
    | none => rfl
    | some s =>
      cases s with
      | one u =>
        cases u with
        | s k d z rows => simp [Sl.er, er_s]
        | any => rfl
        | v b =>
          cases b <;> first | rfl | skip
          simp only [Option.map_some, Sl.er, er_v]
          split <;> simp_all [Sl.er, er_v]
      | _ => rfl
  | load t x =>
    simp only [eval1, er_opd1]
    cases opd mkD.nil D x with
    | none => rfl
    | some s =>
      cases tab.ti t with
      | none => rfl
      | some ti => simp only [Option.map_some]; split <;> first | rfl | exact er_loadSl D ti s
  | fieldAddr t x f =>
    simp only [eval1, er_opd1]
    cases opd mkD.nil D x with
    | none => rfl
    | some s => simp only [Option.map_some, Option.bind_some]; exact er_fieldAddrSl tab t s f
  | indexAddr t x i =>
    simp only [eval1, er_opd1]
    cases hx : opd mkD.nil D x with
    | none => rfl
    | some sx =>
      cases hi : opd mkD.nil D i with
      | none => rfl
      | some si =>
        cases si with
        | one u =>
          cases u with
          | s k d z rows => simp [Sl.er, er_s]
          | any => rfl
          | v b =>
            cases b <;> first | rfl | skip
            exact er_indexAddrSl D tab t sx _
        | _ => rfl
  | index t x y =>
    simp only [eval1, er_opd1]
    cases hx : opd mkD.nil D x with
    | none => rfl
    | some sx =>
      cases hy : opd mkD.nil D y with
      | none => cases sx with
        | one u => cases u with
          | s k d z rows => simp [Sl.er, er_s]
          | v a => cases a <;> rfl
          | any => rfl
        | clo g hs => cases g <;> rfl
        | _ => rfl
      | some sy =>
        cases sx with
        | clo g hs =>
          cases g with
          | fn f => rfl
          | arr offs =>
            cases sy with
            | one v => cases v with
              | s k d z rows => simp [Sl.er, er_s]
              | any => rfl
              | v b =>
                cases b <;> first | rfl | skip
                simp only [Option.map_some, Sl.er, er_v]
                split
                · split <;> simp_all [Sl.er]
                · rfl
            | _ => rfl
        | one u =>
          cases u with
          | s k d z rows => simp [Sl.er, er_s]
          | any => rfl
          | v a =>
            cases a <;> first | rfl | skip
            cases sy with
            | one v => cases v with
              | s k d z rows => simp [Sl.er, er_s, er_v]
              | any => rfl
              | v b =>
                cases b <;> first | rfl | skip
                simp only [Option.map_some, Sl.er, er_v]
                split
                · split <;> simp [Sl.er, er_v]
                · rfl
            | _ => rfl
        | _ => rfl
  | slice t x lo hi mx =>
    cases mx with
    | some m => rfl
    | none =>
      simp only [eval1, er_opd1, er_optInt1]
      cases hx : opd mkD.nil D x with
      | none => rfl
      | some sx =>
        cases optInt mkD.nil D lo with
        | none => rfl
        | some l =>
          cases optInt mkD.nil D hi with
          | none => rfl
          | some h => exact er_sliceSl D tab t sx l h
  | call c => exact er_evalB tab D c
  | _ => rfl
end Go.Proofs.Ytalapefcbodhaaa.Am
namespace Go.Proofs.Ytalapefcbodhaaa.Am
set_option linter.unusedVariables false
set_option linter.unusedSimpArgs false
open Go

theorem er_win (k : Kd) (d : Dec) (z lo len : Nat) (rows : List (List DT)) : (T.s k (mkD.win d lo z) z ((rows.drop lo).take len) : DT).er = .s k (mkU.win () lo z) z (((rows.map erL).drop lo).take len) := by
  rw [er_s, List.map_take, List.map_drop]
  try rfl
theorem er_cellsCopy (D : DSt) (x : Operand) : cellsCopy mkU (erD D) x = (cellsCopy mkD D x).map fun p => (p.1, erL p.2) := by
  simp only [cellsCopy, er_opd1]
  cases opd mkD.nil D x with
  | none => rfl
  | some s =>
    cases s with
    | al h c st lo len =>
      simp only [Option.map_some, Sl.er, er_nodeAt]
      split
      · cases nodeAt D h c st with
        | none => rfl
        | some t =>
          cases t with
          | s k d z rows => simp only [Option.map_some, er_s]; rw [← er_win]; rfl
          | _ => rfl
      · rfl
    | _ => rfl
theorem er_all (f : DT → Bool) (g : T Unit → Bool) (h : ∀ t, g t.er = f t) (ts : List DT) : (erL ts).all g = ts.all f := by
  simp only [erL, List.all_map]
  congr 1
  funext t; exact h t
theorem er_cellsTake (D : DSt) (x : Operand) : cellsTake mkU (erD D) x = (cellsTake mkD D x).map fun p => (p.1, erL p.2.1, erD p.2.2) := by
  cases x with
  | tmp t =>
    simp only [cellsTake, er_get]
    cases D[t]? with
    | none => rfl
    | some s =>
      cases s with
      | one u => simp only [Option.map_some, Sl.er, er_isOwn]; split <;> simp [er_giveUp]
      | agg ts =>
        simp only [Option.map_some, Sl.er, er_all T.noLent T.noLent er_noLent]
        split <;> simp [er_giveUp]
      | al h c st lo len =>
        simp only [Option.map_some, Sl.er, er_nodeAt]
        split
        · cases nodeAt D h c st with
          | none => rfl
          | some n =>
            cases n with
            | s k d z rows =>
              cases k with
              | own =>
                simp only [Option.map_some, er_s]
                rw [← erD_dead, er_updAt (f := fun _ => some .any) (f' := fun _ => some .any) (fun t => rfl)]
                cases updAt (fun _ => some .any) (St.dead (atHC h c) (qHC h c) D) h c st with
                | none => rfl
                | some D' => simp only [Option.map_some]; rw [← er_win]; rfl
              | _ => simp [er_s]
            | _ => rfl
        · rfl
      | _ => rfl
  | _ => rfl
theorem er_cellsOf (D : DSt) (x : Operand) (tk : Bool) : cellsOf mkU (erD D) x tk = (cellsOf mkD D x tk).map fun p => (p.1, erL p.2.1, erD p.2.2) := by
  unfold cellsOf
  split
  · exact er_cellsTake D x
  · rw [er_cellsCopy]
    cases cellsCopy mkD D x <;> rfl
theorem er_slOf (g : Bool) (ts : List DT) : (slOf g (erL ts) : Option (Sl Unit Unit)) = (slOf g ts : Option DSl).map Sl.er := by
  cases g with
  | true => rfl
  | false =>
    match ts with
    | [] => rfl
    | [t] => rfl
    | t :: u :: r => rfl
theorem er_splice (l : List DT) (o : Nat) (new : List DT) : erL (spliceAt l o new) = spliceAt (erL l) o (erL new) := by
  simp [spliceAt, erL, List.map_append, List.map_take, List.map_drop]
theorem er_setRow (i off : Nat) (us : List DT) (t : DT) : setRow i off (erL us) t.er = (setRow i off us t).map T.er := by
  cases t with
  | s k d z rows =>
    simp only [er_s, setRow, List.getElem?_map]
    cases rows[i]? with
    | none => rfl
    | some row =>
      simp only [Option.map_some, Option.bind_some, List.length_map]
      split
      · simp only [Option.map_some, er_s, List.map_set, er_splice]
      · rfl
  | _ => rfl
theorem er_storeTo (D : DSt) (p : DSl) (us : List DT) : storeTo (erD D) p.er (erL us) = (storeTo D p us).map erD := by
  cases p with
  | pb h off =>
    simp only [Sl.er, storeTo, er_get]
    cases D[h]? with
    | none => rfl
    | some s =>
      cases s with
      | box b ts =>
        simp only [Option.map_some, Sl.er, List.length_map]
        split
        · simp only [Option.map_some, er_set, Sl.er, er_splice, erD_dead, erL_dead]
        · rfl
      | _ => rfl
  | pe h c st i off =>
    simp only [Sl.er, storeTo, er_all T.fine T.fine er_fine, er_cellAt]
    split
    · cases cellAt D h c with
      | none => rfl
      | some t =>
        simp only [Option.map_some, er_isOwn, er_getN]
        split
        · cases getN t st with
          | none => rfl
          | some n =>
            cases n with
            | s k d z rows =>
              simp only [Option.map_some, er_s, List.getElem?_map]
              cases rows[i]? with
              | none => rfl
              | some row =>
                simp only [Option.map_some, List.length_map]
                split
                · have e : (((erL row).drop off).take us.length).all T.flat = ((row.drop off).take us.length).all T.flat := by
                    rw [← er_all T.flat T.flat er_flat]
                    simp [erL, List.map_take, List.map_drop]
                  rw [e, ← erD_dead]
                  exact er_updAt (fun t => er_setRow i off us t) _ h c st
                · rfl
            | _ => rfl
        · rfl
    · rfl
  | _ => rfl
theorem er_storeSl (tab : Tab) (D : DSt) (t : Nat) (p x : Operand) (tk : Bool) : storeSl mkU tab (erD D) t p x tk = (storeSl mkD tab D t p x tk).map erD := by
  simp only [storeSl, er_cellsOf]
  cases tab.ti t with
  | none => rfl
  | some ti =>
    cases cellsOf mkD D x tk with
    | none => rfl
    | some r =>
      obtain ⟨g, us, D1⟩ := r
      simp only [Option.map_some, List.length_map]
      split
      · rw [er_opd1]
        cases opd mkD.nil D1 p with
        | none => rfl
        | some q => simp only [Option.map_some, Option.bind_some]; exact er_storeTo D1 q us
      · rfl
theorem er_inj (t : T Unit) : (t.inj nilD).er = t.inj () := by
  cases t with
  | s k d z rows => simp [T.inj, er_s]
  | _ => rfl
theorem er_allocSl (w : World) (tab : Tab) (D : DSt) (dst : Option Nat) (t : Nat) : allocSl mkU frU tab (erD D) dst t = (allocSl mkD (frD w) tab D dst t).map erD := by
  simp only [allocSl]
  cases tab.ti t with
  | none => rfl
  | some ti =>
    cases dst with
    | none => rfl
    | some d =>
      simp only [er_len]
      split
      · simp only [Option.map_some, er_putSl, Sl.er, erL, List.map_map]
        have e : ti.zero.map (T.inj mkU.nil) = ti.zero.map (T.er ∘ T.inj mkD.nil) := List.map_congr_left fun t _ => (er_inj t).symm
        rw [e]
      · rfl
theorem er_boxSl (w : World) (D : DSt) (dst : Option Nat) (x : Operand) (tk : Bool) : boxSl mkU frU (erD D) dst x tk = (boxSl mkD (frD w) D dst x tk).map erD := by
  simp only [boxSl, er_cellsOf]
  cases cellsOf mkD D x tk with
  | none => rfl
  | some r =>
    obtain ⟨g, us, D1⟩ := r
    cases dst with
    | none => rfl
    | some d =>
      simp only [Option.map_some, er_len]
      split
      · simp only [Option.map_some, er_putSl, Sl.er]
        try rfl
      · rfl
theorem er_takeStep (D : DSt) (x : Operand) (dst : Option Nat) :
    ((cellsTake mkU (erD D) x).bind fun r => match dst with | some t => if t < r.2.2.length then (slOf r.1 r.2.1).map fun s => putSl r.2.2 (some t) s else none | none => none) =
      ((cellsTake mkD D x).bind fun r => match dst with | some t => if t < r.2.2.length then (slOf r.1 r.2.1).map fun s => putSl r.2.2 (some t) s else none | none => none).map erD := by
  rw [er_cellsTake]
  cases cellsTake mkD D x with
  | none => rfl
  | some r =>
    obtain ⟨g, us, D1⟩ := r
    cases dst with
    | none => rfl
    | some d =>
      simp only [Option.map_some, Option.bind_some, er_len, er_slOf]
      split
      · cases (slOf g us : Option DSl) with
        | none => rfl
        | some s => simp only [Option.map_some, er_putSl]
      · rfl
theorem er_loadTake (tab : Tab) (D : DSt) (t : Nat) (x : Operand) : loadTake mkU tab (erD D) t x = (loadTake mkD tab D t x).map fun r => (r.1, erL r.2.1, erD r.2.2) := by
  unfold loadTake
  rw [er_opd1]
  cases tab.ti t with
  | none => rfl
  | some ti =>
    cases hx : opd mkD.nil D x with
    | none => rfl
    | some s =>
      cases s with
      | pb h off =>
        cases off with
        | zero =>
          simp only [Option.map_some, Sl.er, er_get]
          cases D[h]? with
          | none => rfl
          | some u =>
            cases u with
            | box b ts =>
              simp only [Option.map_some, Sl.er, List.length_map]
              have e : (erL ts).all T.noLent = ts.all T.noLent := by
                rw [List.all_map]
                congr 1
                funext u
                cases u with
                | s k d z r => cases k <;> simp [er_s, T.noLent]
                | _ => rfl
              rw [e]
              split
              · simp [er_giveUp]
              · rfl
            | _ => rfl
        | succ n => rfl
      | one u => simp [Sl.er]
      | _ => rfl
theorem er_loadStep (tab : Tab) (D : DSt) (t : Nat) (x : Operand) (dst : Option Nat) :
    ((loadTake mkU tab (erD D) t x).bind fun r => match dst with | some t => if t < r.2.2.length then (slOf r.1 r.2.1).map fun s => putSl r.2.2 (some t) s else none | none => none) =
      ((loadTake mkD tab D t x).bind fun r => match dst with | some t => if t < r.2.2.length then (slOf r.1 r.2.1).map fun s => putSl r.2.2 (some t) s else none | none => none).map erD := by
  rw [er_loadTake]
  cases loadTake mkD tab D t x with
  | none => rfl
  | some r =>
    obtain ⟨g, us, D1⟩ := r
    cases dst with
    | none => rfl
    | some d =>
      simp only [Option.map_some, Option.bind_some, er_len, er_slOf]
      split
      · cases (slOf g us : Option DSl) with
        | none => rfl
        | some s => simp only [Option.map_some, er_putSl]
      · rfl
theorem er_evalStep (tab : Tab) (D : DSt) (op : Op) (dst : Option Nat) : ((eval1 mkU tab (erD D) op).bind fun s => putO (erD D) dst s) = ((eval1 mkD tab D op).bind fun s => putO D dst s).map erD := by
  rw [er_eval1]
  cases eval1 mkD tab D op with
  | none => rfl
  | some s => simp only [Option.map_some, Option.bind_some]; exact er_putO D dst s
theorem er_buildRows (D : DSt) (z : Nat) : ∀ (parts : List (Nat × Operand)) (rows : List (List DT)), buildRows mkU (erD D) z parts (rows.map erL) = (buildRows mkD D z parts rows).map (List.map erL)
  | [], rows => rfl
  | (i, x) :: r, rows => by
    simp only [buildRows, er_cellsCopy]
    cases cellsCopy mkD D x with
    | none => rfl
    | some gu =>
      obtain ⟨g, us⟩ := gu
      simp only [Option.map_some, List.length_map, er_all T.fine T.fine er_fine]
      split
      · have e : (rows.map erL).set i (erL us) = (rows.set i us).map erL := by rw [List.map_set]
        rw [e]; exact er_buildRows D z r _
      · rfl
theorem er_zeros (ti : TI) : ti.zero.map (T.inj mkU.nil) = erL (ti.zero.map (T.inj mkD.nil)) := by
  simp only [erL, List.map_map]
  exact List.map_congr_left fun t _ => (er_inj t).symm
theorem er_buildSliceSl (w : World) (tab : Tab) (D : DSt) (dst : Option Nat) (t len : Nat) (parts : List (Nat × Operand)) : buildSliceSl mkU frU tab (erD D) dst t len parts = (buildSliceSl mkD (frD w) tab D dst t len parts).map erD := by
  unfold buildSliceSl
  split
  · rename_i sz by_ ze e d hti
    cases tab.ti e with
    | none => rfl
    | some te =>
      simp only [er_len]
      split
      · have e1 : List.replicate len (te.zero.map (T.inj mkU.nil)) = (List.replicate len (te.zero.map (T.inj mkD.nil))).map erL := by
          rw [List.map_replicate, er_zeros]
        rw [e1, er_buildRows]
        cases buildRows mkD D te.size parts (List.replicate len (te.zero.map (T.inj mkD.nil))) with
        | none => rfl
        | some rows => simp only [Option.map_some, er_putSl, Sl.er, er_s]
      · rfl
  · rfl
theorem er_intOfSl (s : DSl) : intOfSl s.er = intOfSl s := by
  cases s with
  | one u =>
    cases u with
    | s k d z r => simp [Sl.er, er_s, intOfSl]
    | v x => cases x <;> rfl
    | any => rfl
  | _ => rfl
theorem er_opInt (D : DSt) (x : Operand) : (opd mkU.nil (erD D) x).bind intOfSl = (opd mkD.nil D x).bind intOfSl := by
  rw [er_opd1]
  cases opd mkD.nil D x with
  | none => rfl
  | some s => exact er_intOfSl s
theorem er_makeSliceSl (w : World) (tab : Tab) (D : DSt) (dst : Option Nat) (t : Nat) (l c : Operand) : makeSliceSl mkU frU tab (erD D) dst t l c = (makeSliceSl mkD (frD w) tab D dst t l c).map erD := by
  unfold makeSliceSl
  rw [er_opInt, er_opInt]
  split
  · rename_i sz by_ ze e d n k hti hl hc
    cases tab.ti e with
    | none => rfl
    | some te =>
      simp only [er_len]
      split
      · split
        · have e1 : List.replicate n.toNat (te.zero.map (T.inj mkU.nil)) = (List.replicate n.toNat (te.zero.map (T.inj mkD.nil))).map erL := by
            rw [List.map_replicate, er_zeros]
          rw [e1]
          simp only [Option.map_some, er_putSl, Sl.er, er_s]
        · rfl
      · rfl
  · rfl
theorem er_hole (t : DT) : t.hole.er = t.er.hole := by
  cases t with
  | s k d z r => cases k <;> simp [T.hole, er_s, er_any]
  | _ => rfl
theorem er_extractSl (D : DSt) (dst : Option Nat) (x : Operand) (i : Nat) : extractSl (erD D) dst x i = (extractSl D dst x i).map erD := by
  cases x with
  | tmp t =>
    cases dst with
    | none => rfl
    | some d =>
      simp only [extractSl, er_get]
      cases D[t]? with
      | none => rfl
      | some s =>
        cases s with
        | tup rs =>
          simp only [Option.map_some, Sl.er, List.getElem?_map]
          cases rs[i]? with
          | none => rfl
          | some r =>
            obtain ⟨g, ts⟩ := r
            simp only [Option.map_some, er_len, er_all T.noLent T.noLent er_noLent]
            split
            · rw [er_slOf]
              cases (slOf g ts : Option DSl) with
              | none => rfl
              | some s =>
                simp only [Option.map_some, er_putSl, er_set, Sl.er, List.map_set]
                have e : erL (ts.map T.hole) = (erL ts).map T.hole := by
                  simp only [erL, List.map_map]; exact List.map_congr_left fun t _ => er_hole t
                rw [e]
            · rfl
        | _ => rfl
  | _ => cases dst <;> rfl
theorem er_buildCells (D : DSt) (pl : List (Nat × Nat)) : ∀ (parts : List (Nat × Operand)) (ts : List DT), buildCells mkU (erD D) pl parts (erL ts) = (buildCells mkD D pl parts ts).map erL
  | [], ts => rfl
  | (i, x) :: r, ts => by
    simp only [buildCells, er_cellsCopy]
    cases pl[i]? with
    | none => rfl
    | some q =>
      obtain ⟨off, size⟩ := q
      cases cellsCopy mkD D x with
      | none => rfl
      | some gu =>
        obtain ⟨g, us⟩ := gu
        simp only [Option.map_some, List.length_map]
        split
        · rw [← er_splice]; exact er_buildCells D pl r _
        · rfl
theorem er_buildSl (tab : Tab) (D : DSt) (t : Nat) (parts : List (Nat × Operand)) : buildSl mkU tab (erD D) t parts = (buildSl mkD tab D t parts).map Sl.er := by
  simp only [buildSl]
  cases tab.ti t with
  | none => rfl
  | some ti =>
    cases tab.pl t with
    | none => rfl
    | some pl =>
      have e : ti.zero.map (T.inj mkU.nil) = erL (ti.zero.map (T.inj mkD.nil)) := by
        simp only [erL, List.map_map]
        exact List.map_congr_left fun t _ => (er_inj t).symm
      simp only
      rw [e, er_buildCells]
      cases buildCells mkD D pl parts (ti.zero.map (T.inj mkD.nil)) <;> rfl
theorem er_cloHome (D : DSt) (x : Operand) : cloHome (erD D) x = cloHome D x := by
  cases x with
  | tmp t =>
    simp only [cloHome, er_get]
    cases D[t]? with
    | none => rfl
    | some s =>
      cases s with
      | pb h off => cases off <;> rfl
      | _ => rfl
  | _ => rfl
theorem er_cloHomes (D : DSt) : ∀ (xs : List Operand), cloHomes (erD D) xs = cloHomes D xs
  | [] => rfl
  | x :: xs => by simp only [cloHomes, er_cloHome, er_cloHomes D xs]
theorem er_cloSl (D : DSt) (f : FuncId) (xs : List Operand) : cloSl (erD D) f xs = (cloSl D f xs).map Sl.er := by
  unfold cloSl
  rw [er_cloHomes, Option.map_map]
  rfl
theorem er_allflat (rows : List (List DT)) : (rows.map erL).all (fun r => r.all T.flat) = rows.all (fun r => r.all T.flat) := by
  rw [List.all_map]
  congr 1
  funext r
  show (erL r).all T.flat = _
  rw [List.all_map]
  congr 1
  funext t
  exact er_flat t
theorem er_appX (D : DSt) (fl : Bool) (x : Operand) : appX mkU (erD D) fl x = (appX mkD D fl x).map fun p => (p.1, p.2.1.map erL, erD p.2.2) := by
  unfold appX
  cases fl with
  | true =>
    simp only [er_cellsCopy]
    cases cellsCopy mkD D x with
    | none => rfl
    | some r =>
      obtain ⟨g, ts⟩ := r
      cases g with
      | true => rfl
      | false =>
        match ts with
        | [] => rfl
        | [.v v] => rfl
        | [.any] => rfl
        | u :: v :: r => (cases u with | s k d z rr => simp [er_s] | _ => rfl)
        | [.s k2 d2 z2 rows2] =>
          simp only [Option.map_some, List.map_cons, List.map_nil, er_s, er_allflat]
          split <;> rfl
  | false =>
    simp only [er_cellsTake]
    cases cellsTake mkD D x with
    | none => rfl
    | some r =>
      obtain ⟨g, ts, D2⟩ := r
      cases g with
      | true => rfl
      | false =>
        match ts with
        | [] => rfl
        | [.v v] => rfl
        | [.any] => rfl
        | [.s .far d z rows] => simp [er_s]
        | [.s (.lent h c fl) d z rows] => simp [er_s]
        | u :: v :: r => (cases u with | s k d z rr => (cases k <;> simp [er_s]) | _ => rfl)
        | [.s .own d2 z2 rows2] => simp [er_s]
theorem er_appendSl (w : World) (tab : Tab) (D : DSt) (dst : Option Nat) (t t2 : Nat) (s x : Operand) : appendSl mkU frU tab (erD D) dst t t2 s x = (appendSl mkD (frD w) tab D dst t t2 s x).map erD := by
  unfold appendSl
  rw [er_cellsTake]
  cases hs : cellsTake mkD D s with
  | none =>
    cases tab.ti t with
    | none => rfl
    | some ti =>
      obtain ⟨_, _, _, sh⟩ := ti
      cases sh <;> try rfl
      cases tab.ti t2 with
      | none => rfl
      | some ti2 =>
        obtain ⟨_, _, _, sh2⟩ := ti2
        cases sh2 <;> try rfl
        cases dst <;> rfl
  | some r =>
    obtain ⟨g, ts, D1⟩ := r
    cases tab.ti t with
    | none => rfl
    | some ti =>
      obtain ⟨_, _, _, sh⟩ := ti
      cases sh <;> try rfl
      rename_i e
      cases tab.ti t2 with
      | none => rfl
      | some ti2 =>
        obtain ⟨_, _, _, sh2⟩ := ti2
        cases sh2 <;> try rfl
        cases dst with
        | none => rfl
        | some d' =>
          cases g with
          | true => rfl
          | false =>
            match ts with
            | [] => rfl
            | [.v v] => rfl
            | [.any] => rfl
            | [.s .far d z rows] => simp [er_s]
            | [.s (.lent h c fl) d z rows] => simp [er_s]
            | u :: v :: r => (cases u with | s k d z rr => (cases k <;> simp [er_s]) | _ => rfl)
            | [.s .own d z rows] =>
              simp only [Option.map_some, List.map_cons, List.map_nil, er_s]
              cases tab.ti e with
              | none => rfl
              | some te =>
                simp only [er_appX]
                cases appX mkD D1 (te.zero.all T.flat) x with
                | none => rfl
                | some r2 =>
                  obtain ⟨z2, rows2, D2⟩ := r2
                  simp only [Option.map_some, er_len, List.length_map]
                  split
                  · split
                    · simp only [Option.map_some, er_putSl, Sl.er, er_s, List.map_append]
                    · rfl
                  · rfl
theorem er_numsOf : ∀ (rows : List (List DT)), numsOf (rows.map erL) = numsOf rows
  | [] => rfl
  | r :: rs => by
    match r with
    | [] => rfl
    | u :: v :: q =>
      cases u with
      | v x =>
        cases x with
        | int k n => cases k <;> simp [numsOf, er_v]
        | _ => simp [numsOf, er_v]
      | any => simp [numsOf, er_any]
      | s k d z r => simp [numsOf, er_s]
    | [.any] => rfl
    | [.s k d z rows] => simp [er_s, numsOf]
    | [.v (.int .u8 n)] => simp only [List.map_cons, List.map_nil, er_v, numsOf, er_numsOf rs]
    | [.v x] =>
      cases x with
      | int k n => cases k <;> first | rfl | simp only [List.map_cons, List.map_nil, er_v, numsOf, er_numsOf rs]
      | _ => rfl
theorem er_bytesStr (tab : Tab) (D : DSt) (src dst : Nat) (x : Operand) : bytesStr mkU tab (erD D) src dst x = (bytesStr mkD tab D src dst x).map (List.map erL) := by
  unfold bytesStr
  rw [er_cellsCopy]
  cases tab.ti src with
  | none => rfl
  | some ti =>
    obtain ⟨_, _, _, sh⟩ := ti
    cases sh <;> try rfl
    rename_i e
    cases tab.ti dst with
    | none => rfl
    | some ti2 =>
      obtain ⟨_, _, _, sh2⟩ := ti2
      cases sh2 <;> try rfl
      cases cellsCopy mkD D x with
      | none => rfl
      | some r =>
        obtain ⟨g, ts⟩ := r
        cases g with
        | true => rfl
        | false =>
          match ts with
          | [] => rfl
          | [.v v] => rfl
          | [.any] => rfl
          | u :: v :: r => (cases u with | s k d z rr => simp [er_s] | _ => rfl)
          | [.s k d z rows] =>
            simp only [Option.map_some, List.map_cons, List.map_nil, er_s]
            by_cases hz : z = 1
            · subst hz
              simp only
              split
              · rfl
              · rfl
            · simp [hz]
theorem er_tupFlat (D : DSt) (x : Operand) : tupFlat (erD D) x = (tupFlat D x).map (List.map fun r => (r.1, erL r.2)) := by
  unfold tupFlat
  cases x with
  | tmp t =>
    simp only [er_get]
    cases D[t]? with
    | none => rfl
    | some s =>
      cases s with
      | tup rs =>
        simp only [Option.map_some, Sl.er]
        have e1 : ((rs.map fun r => (r.1, erL r.2)).all fun r => r.2.all T.flat) = rs.all fun r => r.2.all T.flat := by
          rw [List.all_map]
          congr 1
          funext r
          show (erL r.2).all T.flat = _
          rw [List.all_map]
          congr 1
          funext u
          exact er_flat u
        have e2 : (rs.map fun r => (r.1, erL r.2)) ≠ [] ↔ rs ≠ [] := by cases rs <;> simp
        by_cases h : (rs.all fun r => r.2.all T.flat) = true ∧ rs ≠ []
        · rw [if_pos h, if_pos ⟨e1.trans h.1, e2.2 h.2⟩]; rfl
        · rw [if_neg h, if_neg (fun g => h ⟨e1.symm.trans g.1, e2.1 g.2⟩)]; rfl
      | _ => rfl
  | _ => rfl
theorem er_tupTake (D : DSt) (x : Operand) (dst : Option Nat) : tupTake (erD D) x dst = (tupTake D x dst).map erD := by
  cases x with
  | tmp t =>
    cases dst with
    | none => rfl
    | some d =>
      simp only [tupTake, er_get]
      cases D[t]? with
      | none => rfl
      | some s =>
        cases s with
        | tup rs =>
          simp only [Option.map_some, Sl.er, er_len]
          have e1 : ((rs.map fun r => (r.1, erL r.2)).all fun r => r.2.all T.noLent) = rs.all fun r => r.2.all T.noLent := by
            rw [List.all_map]
            congr 1
            funext r
            exact er_all T.noLent T.noLent er_noLent r.2
          rw [e1]
          split
          · simp only [Option.map_some, er_putSl, er_set, Sl.er]
          · rfl
        | _ => rfl
  | _ => cases dst <;> rfl
theorem er_strRows (s : ByteArray) : (strRows s : List (List DT)).map erL = strRows s := by
  unfold strRows
  rw [List.map_map]
  exact List.map_congr_left fun b _ => by simp [er_v]
theorem er_strBytesSl (w : World) (tab : Tab) (D : DSt) (dst : Option Nat) (src t : Nat) (x : Operand) : strBytesSl mkU frU tab (erD D) dst src t x = (strBytesSl mkD (frD w) tab D dst src t x).map erD := by
  unfold strBytesSl
  rw [er_opd1]
  cases tab.ti src with
  | none => rfl
  | some ti =>
    obtain ⟨_, _, _, sh⟩ := ti
    cases sh <;> try rfl
    cases tab.ti t with
    | none => rfl
    | some ti2 =>
      obtain ⟨_, _, _, sh2⟩ := ti2
      cases sh2 <;> try rfl
      rename_i e
      cases dst with
      | none => rfl
      | some d =>
        cases hx : opd mkD.nil D x with
        | none => rfl
        | some s =>
          cases s with
          | one u =>
            cases u with
            | v y =>
              cases y with
              | string s =>
                simp only [Option.map_some, Sl.er, er_v, er_len]
                split
                · split
                  · simp only [Option.map_some, er_putSl, Sl.er, er_s, er_strRows]
                  · rfl
                · rfl
              | _ => rfl
            | any => rfl
            | s k d' z r => simp [Sl.er, er_s]
          | _ => rfl
theorem er_storeNil (tab : Tab) (D : DSt) (t : Nat) (p : Operand) (z : Nat) : storeNil mkU tab (erD D) t p z = (storeNil mkD tab D t p z).map erD := by
  unfold storeNil
  cases tab.ti t with
  | none => rfl
  | some ti =>
    simp only
    split
    · rw [er_opd1]
      cases opd mkD.nil D p with
      | none => rfl
      | some ps => exact er_storeTo D ps [.s .own nilD z []]
    · rfl
theorem er_ownFlat (us : List DT) : (erL us).all (fun u => u.isOwn || u.flat) = us.all (fun u => u.isOwn || u.flat) := by
  show (us.map T.er).all _ = _
  rw [List.all_map]
  congr 1
  funext u
  show (u.er.isOwn || u.er.flat) = _
  rw [er_isOwn, er_flat]
theorem er_buildSliceT (w : World) (tab : Tab) (D : DSt) (dst : Option Nat) (t len : Nat) (parts : List (Nat × Operand)) : buildSliceT mkU frU tab (erD D) dst t len parts = (buildSliceT mkD (frD w) tab D dst t len parts).map erD := by
  unfold buildSliceT
  split
  · rename_i sz by_ ze e d x hti
    simp only [er_cellsTake]
    cases tab.ti e with
    | none => rfl
    | some te =>
      cases cellsTake mkD D x with
      | none => rfl
      | some r =>
        obtain ⟨g, us, D1⟩ := r
        simp only [Option.map_some, er_len, List.length_map, er_ownFlat]
        split
        · simp only [Option.map_some, er_putSl, Sl.er, er_s, List.map_cons, List.map_nil]
        · rfl
  · rfl
theorem er_buildT (tab : Tab) (D : DSt) (dst : Option Nat) (t : Nat) (parts : List (Nat × Operand)) : buildT mkU tab (erD D) dst t parts = (buildT mkD tab D dst t parts).map erD := by
  unfold buildT
  split
  · rename_i ti pl i x r d hti hpl
    simp only [er_cellsTake]
    cases pl[i]? with
    | none => rfl
    | some os =>
      obtain ⟨off, size⟩ := os
      cases cellsTake mkD D x with
      | none => rfl
      | some q =>
        obtain ⟨g, us, D1⟩ := q
        simp only [Option.map_some, er_len, List.length_map]
        split
        · have e1 : spliceAt (ti.zero.map (T.inj mkU.nil)) off (erL us) = erL (spliceAt (ti.zero.map (T.inj mkD.nil)) off us) := by
            rw [er_zeros, er_splice]
          rw [e1, er_buildCells]
          cases buildCells mkD D1 pl r (spliceAt (ti.zero.map (T.inj mkD.nil)) off us) with
          | none => rfl
          | some ts => simp only [Option.map_some, er_putSl, Sl.er]
        · rfl
  · rfl
theorem er_ownsOpd (D : DSt) (x : Operand) : ownsOpd (erD D) x = ownsOpd D x := by
  cases x with
  | tmp t =>
    simp only [ownsOpd, er_get]
    cases D[t]? with
    | none => rfl
    | some s =>
      simp only [Option.map_some]
      have ha : ∀ ts : List DT, (erL ts).any T.isOwn = ts.any T.isOwn := fun ts => by
        rw [erL, List.any_map]; congr 1; funext t; exact er_isOwn t
      cases s with
      | one t => exact er_isOwn t
      | agg ts => exact ha ts
      | tup rs =>
        simp only [Sl.er, Sl.isHome, List.any_map]
        congr 1
        funext r
        exact ha r.2
      | _ => rfl
  | _ => rfl
theorem er_buildT2 (tab : Tab) (D : DSt) (dst : Option Nat) (t : Nat) (parts : List (Nat × Operand)) : buildT2 mkU tab (erD D) dst t parts = (buildT2 mkD tab D dst t parts).map erD := by
  unfold buildT2
  simp only [er_ownsOpd]
  split
  · rename_i ti pl i x r d hti hpl hp
    simp only [er_cellsTake, er_zeros, er_buildCells]
    cases pl[i]? with
    | none => rfl
    | some os =>
      obtain ⟨off, size⟩ := os
      cases cellsTake mkD D x with
      | none => rfl
      | some q =>
        obtain ⟨g, us, D1⟩ := q
        cases buildCells mkD D pl (parts.takeWhile (fun p => !ownsOpd D p.2)) (ti.zero.map (T.inj mkD.nil)) with
        | none => rfl
        | some ts0 =>
          simp only [Option.map_some, er_len, List.length_map, er_all T.noLent T.noLent er_noLent]
          split
          · rw [← er_splice, er_buildCells]
            cases buildCells mkD D1 pl r (spliceAt ts0 off us) with
            | none => rfl
            | some ts => simp only [Option.map_some, er_putSl, Sl.er]
          · rfl
  · rfl
theorem er_buildTT (tab : Tab) (D : DSt) (dst : Option Nat) (t : Nat) (parts : List (Nat × Operand)) : buildTT mkU tab (erD D) dst t parts = (buildTT mkD tab D dst t parts).map erD := by
  unfold buildTT
  rw [er_buildT, er_buildT2]
  cases buildT mkD tab D dst t parts <;> rfl
theorem er_stepG (w : World) (tab : Tab) (D : DSt) (o : Oper) (tk : Bool) : stepG mkU frU tab (erD D) o tk = (stepG mkD (frD w) tab D o tk).map erD := by
  obtain ⟨dst, op, ty, pos, after, guard⟩ := o
  cases op with
  | store t p x =>
    cases dst with
    | none =>
      simp only [stepG]
      cases nilZ tab t x with
      | some z => exact er_storeNil tab D t p z
      | none => exact er_storeSl tab D t p x tk
    | some d => rfl
  | alloc t => exact er_allocSl w tab D dst t
  | box t x => exact er_boxSl w D dst x tk
  | move x =>
    simp only [stepG]
    cases nilZ tab ty x with
    | some z => exact er_putO D dst (.one (.s .own nilD z []))
    | none =>
      simp only [er_tupFlat]
      cases tupFlat D x with
      | some rs => exact er_putO D dst (.tup rs)
      | none =>
        cases tk with
        | true =>
          simp only [if_true, er_tupTake]
          cases tupTake D x dst with
          | some D' => rfl
          | none => exact er_takeStep D x dst
        | false => exact er_evalStep tab D (.move x) dst
  | assign x =>
    simp only [stepG]
    cases nilZ tab ty x with
    | some z => exact er_putO D dst (.one (.s .own nilD z []))
    | none =>
      cases tk with
      | true => exact er_takeStep D x dst
      | false => exact er_evalStep tab D (.assign x) dst
  | load t x =>
    cases tk with
    | true => exact er_loadStep tab D t x dst
    | false => exact er_evalStep tab D (.load t x) dst
  | extract x i => exact er_extractSl D dst x i
  | buildSlice t len parts =>
    cases tk with
    | true => exact er_buildSliceT w tab D dst t len parts.toList
    | false => exact er_buildSliceSl w tab D dst t len parts.toList
  | makeSlice t l c => exact er_makeSliceSl w tab D dst t l c
  | call c =>
    simp only [stepG]
    cases appArgs c with
    | none => exact er_evalStep tab D (.call c) dst
    | some q =>
      obtain ⟨t, t2, s, x⟩ := q
      exact er_appendSl w tab D dst t t2 s x
  | convert src d x =>
    simp only [stepG]
    rw [er_bytesStr]
    cases bytesStr mkD tab D src d x with
    | none =>
      simp only [Option.map_none]
      rw [er_strBytesSl w]
      cases strBytesSl mkD (frD w) tab D dst src d x with
      | none => exact er_evalStep tab D (.convert src d x) dst
      | some D2 => rfl
    | some rows =>
      simp only [Option.map_some, er_numsOf]
      cases numsOf rows with
      | none => rfl
      | some xs => simp only [Option.bind_some]; exact er_putO D dst (.one (.v (.string (strOfNums xs))))
  | makeFunc fn first caps =>
    cases fn with
    | func f =>
      simp only [stepG]
      split
      · rw [er_cloSl]
        cases cloSl D f caps.toList with
        | none => rfl
        | some s => simp only [Option.map_some, Option.bind_some]; exact er_putO D dst s
      · rfl
    | _ => rfl
  | build t parts =>
    cases tk with
    | true => exact er_buildTT tab D dst t parts.toList
    | false =>
      simp only [stepG, Bool.false_eq_true, if_false, er_buildSl]
      cases buildSl mkD tab D t parts.toList with
      | none => rfl
      | some s => simp only [Option.map_some, Option.bind_some]; exact er_putO D dst s
  | _ => simp only [stepG]; exact er_evalStep tab D _ dst
end Go.Proofs.Ytalapefcbodhaaa.Am
namespace Go.Proofs.Ytalapefcbodhaaa.Am
set_option linter.unusedVariables false
set_option linter.unusedSimpArgs false
open Go

section
variable {δ β : Type}
def capOf (D : St δ β) : List Nat → Option (List (β × List (T δ)))
  | [] => some []
  | h :: hs => match D[h]? with | some (.box b ts) => (capOf D hs).map fun r => (b, ts.map (T.view .far)) :: r | _ => none
def ims (caps : List (β × List (T δ))) : List (Sl δ β) := caps.map fun p => .im .far p.1 p.2 0
def argOf (M : Mk δ β) (D : St δ β) (x : Operand) : Option (Sl δ β) :=
  match opd M.nil D x with
  | some (.im _ b ts off) => some (.im .far b ts off)
  | some (.pb h off) => match D[h]? with | some (.box b ts) => some (.im .far b (ts.map (T.view .far)) off) | _ => none
  | some (.fni f caps) => some (.fni f caps)
  | some (.pe _ _ _ _ _) => none
  | some (.clo (.fn f) hs) => (capOf D hs).map (.fni f ·)
  | _ => (cellsCopy M D x).bind fun p => slOf p.1 (p.2.map (T.view .far))
def argsOf (M : Mk δ β) (D : St δ β) : List Operand → Option (List (Sl δ β))
  | [] => some []
  | x :: xs => (argOf M D x).bind fun s => (argsOf M D xs).map fun r => s :: r
end

def Out (cx : Cx) (D : DSt) (X : List Nat) : Prop := ∀ b ∈ X, cx.may b ∧ cntD D b = 0
theorem Out.nil (cx : Cx) (D : DSt) : Out cx D [] := fun b h => by cases h

structure AOk (w : World) (X : List Nat) (a : DSl) (y : Value) : Prop where
  val : ∀ D, VS D a y
  mem : MemS w a
  kind : ∀ D, KindS ⟨w, X⟩ D a
  own : ∀ b ∈ ownBl a, b ∈ X ∧ b < w.heap.size
theorem ownBl_notHome {a : DSl} (h : a.isHome = false) : ownBl a = [] := by
  cases a with
  | one t => exact ownR_not h
  | agg ts =>
    show ts.flatMap ownR = []
    rw [List.flatMap_eq_nil_iff]
    intro t ht
    refine ownR_not ?_
    cases ho : t.isOwn with
    | false => rfl
    | true => have : ts.any T.isOwn = false := h
              rw [List.any_eq_false] at this
              exact absurd ho (this t ht)
  | box b ts => cases h
  | tup rs =>
    show (rs.flatMap fun r => r.2.flatMap ownR) = []
    have h' : (rs.any fun r => r.2.any T.isOwn) = false := h
    rw [List.any_eq_false] at h'
    rw [List.flatMap_eq_nil_iff]
    intro r hr
    rw [List.flatMap_eq_nil_iff]
    intro t ht
    refine ownR_not ?_
    cases ho : t.isOwn with
    | false => rfl
    | true => exact absurd (List.any_eq_true.2 ⟨t, ht, ho⟩) (h' r hr)
  | _ => rfl
theorem own_none {w : World} {X : List Nat} {a : DSl} (h : ownBl a = []) : ∀ b ∈ ownBl a, b ∈ X ∧ b < w.heap.size := fun b hb => by rw [h] at hb; cases hb

theorem far0 {w : World} {b : Nat} (h : b < w.heap.size) : (Cx.mk w []).far b := ⟨h, by simp⟩
theorem Inv.farX {cx : Cx} {D : DSt} {P : List (DT × Value)} {tm : Array Value} {w : World} (I : Inv cx D P tm w) {X : List Nat} (hX : Out cx D X) {b : Nat} (h : cx.far b) : (Cx.mk w X).far b :=
  ⟨Nat.lt_of_lt_of_le h.1 I.frame.size, fun hb => Cx.far_not h (hX b hb).1⟩

theorem isOwn_far (t : DT) : (t.view .far).isOwn = false := by cases t <;> rfl

theorem AOk.views {w : World} {X : List Nat} {ts : List DT} {ys : List Value} {g : Bool} {y : Value} {s : DSl} (hv : VCells ts ys) (hh : ∀ t ∈ ts, Holds w t) (hb : ∀ t ∈ ts, ∀ b ∈ bl t, (Cx.mk w X).far b)
    (hy : ValIs g y ys) (hs : slOf g (ts.map (T.view .far)) = some s) : AOk w X s y ∧ s.isHome = false := by
  have hK : ∀ D, ∀ t ∈ ts.map (T.view .far), KindT ⟨w, X⟩ D t := by
    intro D t ht
    obtain ⟨u, hu, rfl⟩ := List.mem_map.1 ht
    cases u with
    | v x => trivial
    | any => trivial
    | s k d z r => exact fun x hx => hb _ hu x (by rw [bl_s] at hx ⊢; exact hx)
  have hH : ∀ t ∈ ts.map (T.view .far), Holds w t := by
    intro t ht
    obtain ⟨u, hu, rfl⟩ := List.mem_map.1 ht
    exact Holds_view (hh u hu)
  have hO : ∀ t ∈ ts.map (T.view .far), t.isOwn = false := by
    intro t ht
    obtain ⟨u, hu, rfl⟩ := List.mem_map.1 ht
    exact isOwn_far u
  have hV : VCells (ts.map (T.view .far)) ys := by
    refine ⟨by simpa using hv.1, fun i t y hi hy => ?_⟩
    rw [List.getElem?_map, Option.map_eq_some_iff] at hi
    obtain ⟨u, hu, rfl⟩ := hi
    exact VT_view.2 (hv.2 i u y hu hy)
  have hE : (ts.map (T.view .far)).flatMap ownR = [] := by
    rw [List.flatMap_eq_nil_iff]
    intro t ht
    exact ownR_not (hO t ht)
  generalize ts.map (T.view .far) = us at *
  unfold slOf at hs
  split at hs
  · cases hs
    refine ⟨⟨fun D => ⟨ys.toArray, by simpa [ValIs] using hy, by simpa using hV⟩, ⟨hH, fun t ht ho => ?_, trivial⟩, fun D t ht => hK D t ht, own_none hE⟩, by
      show us.any T.isOwn = false
      rw [List.any_eq_false]; exact fun t ht => by rw [hO t ht]; exact Bool.false_ne_true⟩
    rw [hO t ht] at ho; cases ho
  · rename_i t
    cases hs
    have e : ys = [y] := by simpa [ValIs] using hy
    subst e
    refine ⟨⟨fun D => hV.2 0 t y rfl rfl, ⟨fun u hu => hH u (by simpa [rootsOf] using hu), fun u hu ho => ?_, trivial⟩, fun D u hu => hK D u (by simpa [rootsOf] using hu), own_none (by simpa [ownBl] using hE)⟩, hO _ (List.mem_singleton_self _)⟩
    have := hO u (by simpa [rootsO] using hu)
    rw [this] at ho; cases ho
  · cases hs

theorem Inv.out_kind {cx : Cx} {D : DSt} {P : List (DT × Value)} {tm : Array Value} {w : World} (I : Inv cx D P tm w) {X : List Nat} (hX : Out cx D X) {t : DT} (hk : KindT cx D t) (ho : t.isOwn = false) : ∀ b ∈ bl t, (Cx.mk w X).far b := by
  intro b hb
  cases t with
  | v x => simp [bl] at hb
  | any => simp [bl] at hb
  | s k d z r =>
    cases k with
    | own => cases ho
    | far => exact I.farX hX (hk b hb)
    | lent h c fl =>
      obtain ⟨t', h1, h2, h3, h3r⟩ := hk
      obtain ⟨s, g1, g2, g3, g3', g4⟩ := cellAt_mem h1
      have hp := mem_ownBl_cnt (b := b) g2 (g4 h2 b (h3 b hb))
      exact ⟨(I.bnd b (by omega)).2, fun q => by have := (hX b q).2; omega⟩
theorem Inv.out_own {cx : Cx} {D : DSt} {P : List (DT × Value)} {tm : Array Value} {w : World} (I : Inv cx D P tm w) {X : List Nat} (hX : Out cx D X) {s : DSl} (hs : s ∈ D) {b : Nat} (hb : b ∈ ownBl s) : (Cx.mk w X).far b := by
  have hp := mem_ownBl_cnt (b := b) hs hb
  exact ⟨(I.bnd b (by omega)).2, fun q => by have := (hX b q).2; omega⟩
theorem capOf_spec {D : DSt} : ∀ {hs : List Nat} {caps : List ((Nat × Nat) × List DT)}, capOf D hs = some caps → caps.length = hs.length ∧
    ∀ (i h : Nat), hs[i]? = some h → ∃ (b : Nat × Nat) (ts : List DT), D[h]? = some (.box b ts) ∧ caps[i]? = some (b, ts.map (T.view .far))
  | [], caps, h => by cases h; exact ⟨rfl, fun i h e => by simp at e⟩
  | h :: hs, caps, e => by
    unfold capOf at e
    split at e
    · rename_i b ts hb
      rw [Option.map_eq_some_iff] at e
      obtain ⟨r, h1, rfl⟩ := e
      obtain ⟨g1, g2⟩ := capOf_spec h1
      refine ⟨by simp [g1], fun i h' hi => ?_⟩
      cases i with
      | zero => simp at hi; subst hi; exact ⟨b, ts, hb, rfl⟩
      | succ i => simp at hi; simpa using g2 i h' hi
    · cases e
theorem Inv.boxFar {cx : Cx} {D : DSt} {P : List (DT × Value)} {tm : Array Value} {w : World} (I : Inv cx D P tm w) {X : List Nat} (hX : Out cx D X) {h : Nat} {b : Nat × Nat} {ts : List DT} (hb : D[h]? = some (.box b ts)) :
    (Cx.mk w X).far b.1 ∧ Lies w b (ts.map (T.view .far)) ∧ (∀ u ∈ ts.map (T.view .far), Holds w u) ∧ ∀ u ∈ ts.map (T.view .far), ∀ x ∈ bl u, (Cx.mk w X).far x := by
  have hmem := List.mem_of_getElem? hb
  have hm := I.mem _ hmem
  have hlt : ∀ t ∈ ts, ∀ x ∈ bl t, (Cx.mk w X).far x := by
    intro t ht x hx
    cases ho : t.isOwn with
    | true => exact I.out_own hX hmem (by simp only [ownBl, List.mem_cons, List.mem_flatMap]; exact .inr ⟨t, ht, by simp [ownR, ho, hx]⟩)
    | false => exact I.out_kind hX (I.kind _ hmem t ht) ho x hx
  refine ⟨I.out_own hX hmem (by simp [ownBl]), ?_, fun u hu => ?_, fun u hu x hx => ?_⟩
  · obtain ⟨c, e, f, h1, h2⟩ := hm.2.2.1
    refine ⟨c, e, f, h1, fun j t hj => ?_⟩
    rw [List.getElem?_map, Option.map_eq_some_iff] at hj
    obtain ⟨u, hu, rfl⟩ := hj
    obtain ⟨y, y1, y2⟩ := h2 j u hu
    exact ⟨y, y1, VT_view.2 y2⟩
  · obtain ⟨v, hv, rfl⟩ := List.mem_map.1 hu
    exact Holds_view (hm.1 v hv)
  · obtain ⟨v, hv, rfl⟩ := List.mem_map.1 hu
    rw [bl_view] at hx
    exact hlt v hv x hx
theorem Inv.cloArg {cx : Cx} {D : DSt} {P : List (DT × Value)} {tm : Array Value} {w : World} (I : Inv cx D P tm w) {X : List Nat} (hX : Out cx D X) {f : FuncId} {hs : List Nat} {caps : List ((Nat × Nat) × List DT)} (hc : capOf D hs = some caps) {y : Value}
    (hv : VS D (.clo (.fn f) hs) y) : AOk w X (.fni f caps) y := by
  obtain ⟨bs, h1, h2, rfl⟩ := hv
  obtain ⟨g1, g2⟩ := capOf_spec hc
  have hall : ∀ p ∈ caps, ∃ (h : Nat) (ts : List DT), D[h]? = some (.box p.1 ts) ∧ p.2 = ts.map (T.view .far) := by
    intro p hp
    obtain ⟨i, hi⟩ := List.getElem?_of_mem hp
    have hlt : i < hs.length := by
      rcases Nat.lt_or_ge i caps.length with q | q
      · omega
      · rw [List.getElem?_eq_none q] at hi; cases hi
    obtain ⟨b, ts, k1, k2⟩ := g2 i hs[i] (List.getElem?_eq_getElem hlt)
    rw [hi] at k2
    cases k2
    exact ⟨_, ts, k1, rfl⟩
  have heq : bs = caps.map (·.1) := by
    apply List.ext_getElem?
    intro i
    rcases Nat.lt_or_ge i hs.length with q | q
    · obtain ⟨b, ts, k1, k2⟩ := g2 i hs[i] (List.getElem?_eq_getElem q)
      obtain ⟨ts', k3⟩ := h2 i hs[i] bs[i] (List.getElem?_eq_getElem q) (List.getElem?_eq_getElem (by omega))
      rw [k1] at k3
      cases k3
      rw [List.getElem?_map, k2, List.getElem?_eq_getElem (by omega)]
      rfl
    · rw [List.getElem?_eq_none (by omega), List.getElem?_eq_none (by simp; omega)]
  refine ⟨fun D => ?_, ⟨fun t ht => ?_, fun t ht => by simp [rootsO] at ht, fun p hp => ?_⟩, fun D p hp => ?_, own_none rfl⟩
  · show cloV (.fn f) bs = _
    simp only [cloV, heq, List.map_map]
    rfl
  · simp only [rootsOf, List.mem_flatMap] at ht
    obtain ⟨p, hp, ht⟩ := ht
    obtain ⟨h, ts, k1, k2⟩ := hall p hp
    rw [k2] at ht
    exact (I.boxFar hX k1).2.2.1 t ht
  · obtain ⟨h, ts, k1, k2⟩ := hall p hp
    rw [k2]
    exact (I.boxFar hX k1).2.1
  · obtain ⟨h, ts, k1, k2⟩ := hall p hp
    rw [k2]
    exact ⟨(I.boxFar hX k1).1, fun t ht x hx => (I.boxFar hX k1).2.2.2 t ht x hx⟩
theorem AOk.ims {w : World} {X : List Nat} {f : FuncId} {caps : List ((Nat × Nat) × List DT)} {y : Value} (h : AOk w X (.fni f caps) y) : ∀ (i : Nat) (a : DSl) (v : Value), (Am.ims caps)[i]? = some a → (caps.map fun b => Value.pointer (some ⟨b.1.1, b.1.2, none⟩))[i]? = some v → AOk w X a v := by
  intro i a v hi hv
  unfold Am.ims at hi
  rw [List.getElem?_map, Option.map_eq_some_iff] at hi hv
  obtain ⟨p, h1, rfl⟩ := hi
  obtain ⟨p', h2, rfl⟩ := hv
  rw [h1] at h2; cases h2
  have hp := List.mem_of_getElem? h1
  have hm := h.mem
  refine ⟨fun D => rfl, ⟨fun t ht => ?_, fun t ht => by simp [rootsO] at ht, hm.2.2 p hp⟩, fun D => ?_, own_none rfl⟩
  · exact hm.1 t (by simp only [rootsOf, List.mem_flatMap]; exact ⟨p, hp, by simpa [rootsOf] using ht⟩)
  · have := h.kind D p hp
    exact ⟨this.1, this.2⟩
theorem ims_noown (caps : List ((Nat × Nat) × List DT)) : (Am.ims caps).flatMap ownBl = [] := by
  rw [List.flatMap_eq_nil_iff]
  intro s hs
  obtain ⟨p, _, rfl⟩ := List.mem_map.1 hs
  rfl
theorem Inv.argOf {cx : Cx} {D : DSt} {P : List (DT × Value)} {a : Act} {w : World} (I : Inv cx D P a.tmps w) {X : List Nat} (hX : Out cx D X) {x : Operand} {s : DSl} (e : argOf mkD D x = some s) : AOk w X s (a.eval x) ∧ s.isHome = false := by
  unfold Am.argOf at e
  split at e
  · rename_i k b ts off h
    cases e
    have hT := I.opd h
    have hm := hT.mem
    have hk := hT.kind
    refine ⟨⟨fun D => hT.val, ⟨hm.1, fun t ht => by simp [rootsO] at ht, hm.2.2⟩, fun D => ?_, own_none rfl⟩, rfl⟩
    cases k with
    | own => exact hk.elim
    | far => exact ⟨I.farX hX hk.1, fun t ht x hx => I.farX hX (hk.2 t ht x hx)⟩
    | lent h' c' fl =>
      obtain ⟨t', h1, h2, h3, h4⟩ := hk
      obtain ⟨s', g1, g2, g3, g3', g4⟩ := cellAt_mem h1
      exact ⟨I.out_own hX g2 (g4 h2 _ h3), fun t ht x hx => I.out_own hX g2 (g4 h2 _ (h4 t ht x hx))⟩
  · rename_i h off hp
    split at e
    · rename_i b ts hb
      cases e
      have hT := I.opd hp
      obtain ⟨b', ts', hb', hy⟩ := hT.val
      rw [hb] at hb'; cases hb'
      obtain ⟨g1, g2, g3, g4⟩ := I.boxFar hX hb
      exact ⟨⟨fun D => hy, ⟨fun t ht => g3 t (by simpa [rootsOf] using ht), fun t ht => by simp [rootsO] at ht, g2⟩, fun D => ⟨g1, g4⟩, own_none rfl⟩, rfl⟩
    · cases e
  · rename_i f caps h
    cases e
    have hT := I.opd h
    refine ⟨⟨fun D => hT.val, hT.mem, fun D p hp => ?_, own_none rfl⟩, rfl⟩
    have := hT.kind p hp
    exact ⟨I.farX hX this.1, fun t ht x hx => I.farX hX (this.2 t ht x hx)⟩
  · cases e
  · rename_i f hs hx
    rw [Option.map_eq_some_iff] at e
    obtain ⟨caps, h1, rfl⟩ := e
    exact ⟨I.cloArg hX h1 (I.opd hx).val, rfl⟩
  · rw [Option.bind_eq_some_iff] at e
    obtain ⟨⟨g, ts⟩, h, e⟩ := e
    obtain ⟨ys, G, hv⟩ := I.cellsCopy h
    refine AOk.views G.v G.holds (fun t ht b hb => ?_) hv e
    cases ho : t.isOwn with
    | false => exact I.out_kind hX (G.kind t ht) ho b hb
    | true =>
      have h1 := G.cnt b
      have h2 : 0 < (ts.flatMap ownR).count b := List.count_pos_iff.2 (List.mem_flatMap.2 ⟨t, ht, by simp [ownR, ho, hb]⟩)
      rw [cntP_nil] at h1; omega

def ArgsOk (w : World) (X : List Nat) (ad : List DSl) (vs : List Value) : Prop :=
  ad.length = vs.length ∧ (∀ (i : Nat) (a : DSl) (y : Value), ad[i]? = some a → vs[i]? = some y → AOk w X a y) ∧ ∀ b, (ad.flatMap ownBl).count b ≤ 1
theorem ArgsOk.nil (w : World) (X : List Nat) : ArgsOk w X [] [] := ⟨rfl, fun i a y h => by simp at h, fun b => by simp⟩
theorem ArgsOk.consH {w : World} {X : List Nat} {a : DSl} {y : Value} {as : List DSl} {ys : List Value} (h : AOk w X a y) (hc : ∀ b, (ownBl a).count b + (as.flatMap ownBl).count b ≤ 1) (g : ArgsOk w X as ys) : ArgsOk w X (a :: as) (y :: ys) := by
  refine ⟨by simp [g.1], fun i a' y' hi hy => ?_, fun b => by rw [List.flatMap_cons, List.count_append]; exact hc b⟩
  cases i with
  | zero => simp at hi hy; subst hi; subst hy; exact h
  | succ i => simp at hi hy; exact g.2.1 i a' y' hi (by simpa using hy)
theorem ArgsOk.consN {w : World} {X : List Nat} {a : DSl} {y : Value} {as : List DSl} {ys : List Value} (h : AOk w X a y) (hc : a.isHome = false) (g : ArgsOk w X as ys) : ArgsOk w X (a :: as) (y :: ys) :=
  ArgsOk.consH h (fun b => by rw [ownBl_notHome hc]; simpa using g.2.2 b) g
theorem noHomes {ad : List DSl} (h : ∀ a ∈ ad, a.isHome = false) : ad.flatMap ownBl = [] := by
  rw [List.flatMap_eq_nil_iff]
  exact fun a ha => ownBl_notHome (h a ha)
theorem Inv.argsOf {cx : Cx} {D : DSt} {P : List (DT × Value)} {a : Act} {w : World} (I : Inv cx D P a.tmps w) {X : List Nat} (hX : Out cx D X) : ∀ {xs : List Operand} {ss : List DSl}, argsOf mkD D xs = some ss → ArgsOk w X ss (xs.map a.eval) ∧ ∀ a ∈ ss, a.isHome = false
  | [], ss, e => by cases e; exact ⟨ArgsOk.nil w X, fun a h => by cases h⟩
  | x :: xs, ss, e => by
    simp only [Am.argsOf, Option.bind_eq_some_iff, Option.map_eq_some_iff] at e
    obtain ⟨s, h1, r, h2, rfl⟩ := e
    obtain ⟨g1, g2⟩ := I.argsOf hX h2
    obtain ⟨k1, k2⟩ := I.argOf hX h1
    exact ⟨g1.consN k1 k2, fun a' ha => by
      rcases List.mem_cons.1 ha with rfl | ha
      · exact k2
      · exact g2 a' ha⟩

section
variable {δ β : Type}
def argsIo (M : Mk δ β) (D : St δ β) (s : Sl δ β) : Nat → List Operand → Option (List (Sl δ β))
  | _, [] => none
  | 0, _ :: xs => (argsOf M D xs).map fun r => s :: r
  | i + 1, x :: xs => (argOf M D x).bind fun a => (argsIo M D s i xs).map fun r => a :: r
end
def OneHome (s : DSl) (y : Value) : Nat → List DSl → List Value → Prop
  | _, [], _ => False
  | _, _ :: _, [] => False
  | 0, a :: as, v :: _ => a = s ∧ v = y ∧ ∀ a ∈ as, a.isHome = false
  | i + 1, a :: as, _ :: vs => a.isHome = false ∧ OneHome s y i as vs
theorem Inv.argsIo {cx : Cx} {D : DSt} {P : List (DT × Value)} {a : Act} {w : World} (I : Inv cx D P a.tmps w) {X : List Nat} (hX : Out cx D X) {s : DSl} {x : Operand} (hs : AOk w X s (a.eval x)) (h1 : ∀ b, (ownBl s).count b ≤ 1) :
    ∀ {i : Nat} {xs : List Operand} {ss : List DSl}, xs[i]? = some x → argsIo mkD D s i xs = some ss → ArgsOk w X ss (xs.map a.eval) ∧ ss.flatMap ownBl = ownBl s ∧ OneHome s (a.eval x) i ss (xs.map a.eval)
  | _, [], ss, hx, e => by simp at hx
  | 0, y :: xs, ss, hx, e => by
    simp only [Am.argsIo, Option.map_eq_some_iff] at e
    obtain ⟨r, h2, rfl⟩ := e
    obtain ⟨g1, g2⟩ := I.argsOf hX h2
    simp at hx; subst hx
    exact ⟨g1.consH hs fun b => by rw [noHomes g2]; simpa using h1 b, by rw [List.flatMap_cons, noHomes g2, List.append_nil], rfl, rfl, g2⟩
  | i + 1, y :: xs, ss, hx, e => by
    simp only [Am.argsIo, Option.bind_eq_some_iff, Option.map_eq_some_iff] at e
    obtain ⟨a', k1, r, h2, rfl⟩ := e
    obtain ⟨g1, g2, g3⟩ := I.argsIo hX hs h1 (by simpa using hx) h2
    obtain ⟨k2, k3⟩ := I.argOf hX k1
    exact ⟨g1.consN k2 k3, by rw [List.flatMap_cons, ownBl_notHome k3, g2]; rfl, k3, g3⟩

theorem er_capOf (D : DSt) : ∀ (hs : List Nat), capOf (erD D) hs = (capOf D hs).map (List.map fun p => ((), erL p.2))
  | [] => rfl
  | h :: hs => by
    simp only [capOf, er_get]
    cases D[h]? with
    | none => rfl
    | some s =>
      cases s with
      | box b ts =>
        simp only [Option.map_some, Sl.er, er_capOf D hs]
        cases capOf D hs with
        | none => rfl
        | some r => simp only [Option.map_some, List.map_cons, erL_view]
      | _ => rfl
theorem er_ims (caps : List ((Nat × Nat) × List DT)) : (ims caps).map Sl.er = ims (caps.map fun p => ((), erL p.2)) := by
  unfold ims
  rw [List.map_map, List.map_map]
  rfl
theorem er_argOf (D : DSt) (x : Operand) : argOf mkU (erD D) x = (argOf mkD D x).map Sl.er := by
  simp only [argOf, er_opd1]
  have fin : ∀ s : DSl, ((cellsCopy mkU (erD D) x).bind fun p => slOf p.1 (p.2.map (T.view .far))) = ((cellsCopy mkD D x).bind fun p => (slOf p.1 (p.2.map (T.view .far)) : Option DSl)).map Sl.er := by
    intro s
    rw [er_cellsCopy]
    cases cellsCopy mkD D x with
    | none => rfl
    | some p => simp only [Option.map_some, Option.bind_some, ← erL_view, er_slOf]
  cases hx : opd mkD.nil D x with
  | none => exact fin .any
  | some s =>
    cases s with
    | pb h off =>
      simp only [Option.map_some, Sl.er, er_get]
      cases D[h]? with
      | none => rfl
      | some s => cases s <;> first | rfl | simp only [Option.map_some, Sl.er, erL_view]
    | im k b ts off => rfl
    | fni f caps => rfl
    | pe h c st i off => rfl
    | clo g hs =>
      cases g with
      | arr offs => exact fin .any
      | fn f =>
        simp only [Option.map_some, Sl.er, er_capOf]
        cases capOf D hs with
        | none => rfl
        | some r => rfl
    | _ => exact fin .any
theorem er_argsOf (D : DSt) : ∀ (xs : List Operand), argsOf mkU (erD D) xs = (argsOf mkD D xs).map (List.map Sl.er)
  | [] => rfl
  | x :: xs => by
    simp only [argsOf, er_argOf, er_argsOf D xs]
    cases argOf mkD D x with
    | none => rfl
    | some s =>
      simp only [Option.map_some, Option.bind_some]
      cases argsOf mkD D xs with
      | none => rfl
      | some r => rfl

theorem er_argsIo (D : DSt) (s : DSl) : ∀ (i : Nat) (xs : List Operand), argsIo mkU (erD D) s.er i xs = (argsIo mkD D s i xs).map (List.map Sl.er)
  | _, [] => by simp [argsIo]
  | 0, x :: xs => by
    simp only [argsIo, er_argsOf]
    cases argsOf mkD D xs with
    | none => rfl
    | some r => rfl
  | i + 1, x :: xs => by
    simp only [argsIo, er_argOf, er_argsIo D s i xs]
    cases argOf mkD D x with
    | none => rfl
    | some a =>
      simp only [Option.map_some, Option.bind_some]
      cases argsIo mkD D s i xs with
      | none => rfl
      | some r => rfl

abbrev URes := List (Bool × List (T Unit))
abbrev DRes := List (Bool × List DT)
def erR (rd : DRes) : URes := rd.map fun r => (r.1, erL r.2)
theorem erR_append (a b : DRes) : erR (a ++ b) = erR a ++ erR b := by simp [erR]
def boxBl : DSl → List Nat
  | .box b _ => [b.1]
  | _ => []
theorem noBox {a : DSl} (h : a.isHome = false) : boxBl a = [] := by cases a <;> first | rfl | cases h
theorem noBoxes {ad : List DSl} (h : ∀ a ∈ ad, a.isHome = false) : ad.flatMap boxBl = [] := by
  rw [List.flatMap_eq_nil_iff]
  exact fun a ha => noBox (h a ha)
def resBl (rd : DRes) : List Nat := rd.flatMap fun r => r.2.flatMap ownR
theorem resBl_append (a b : DRes) : resBl (a ++ b) = resBl a ++ resBl b := by simp [resBl]
inductive HK where
  | box
  | one
  | agg
  deriving DecidableEq
def hkOf {δ β : Type} : Sl δ β → Option HK
  | .box _ _ => some .box
  | .one u => if u.isOwn = true then some .one else none
  | .agg ts => if ts.any T.isOwn = true then some .agg else none
  | _ => none
theorem hkOf_none {a : DSl} (h : a.isHome = false) : hkOf a = none := by
  cases a with
  | one t => simp [hkOf, show t.isOwn = false from h]
  | agg ts => simp only [hkOf, show ts.any T.isOwn = false from h]; rfl
  | box b ts => cases h
  | _ => rfl
theorem hkOf_box {a : DSl} (h : hkOf a = some .box) : ∃ b ts, a = .box b ts := by
  cases a with
  | box b ts => exact ⟨b, ts, rfl⟩
  | one u => simp only [hkOf] at h; split at h <;> simp at h
  | agg ts => simp only [hkOf] at h; split at h <;> simp at h
  | _ => simp [hkOf] at h
theorem hkOf_one {a : DSl} (h : hkOf a = some .one) : ∃ u, a = .one u := by
  cases a with
  | box b ts => simp [hkOf] at h
  | one u => exact ⟨u, rfl⟩
  | agg ts => simp only [hkOf] at h; split at h <;> simp at h
  | _ => simp [hkOf] at h
theorem hkOf_agg {a : DSl} (h : hkOf a = some .agg) : ∃ ts, a = .agg ts := by
  cases a with
  | box b ts => simp [hkOf] at h
  | one u => simp only [hkOf] at h; split at h <;> simp at h
  | agg ts => exact ⟨ts, rfl⟩
  | _ => simp [hkOf] at h
def OutOk (w' : World) (a : DSl) (y : Value) (o : Bool × List DT) : Prop :=
  match a with
  | .box b _ => o.1 = true ∧ Lies w' b o.2 ∧ Free w' b o.2.length
  | .one _ => VPart o y ∧ o.1 = false
  | .agg _ => VPart o y ∧ o.1 = true
  | _ => False
def OutsOk (w' : World) : List DSl → List Value → DRes → Prop
  | [], _, od => od = []
  | a :: as, y :: ys, od => if (hkOf a).isSome then ∃ o r, od = o :: r ∧ OutOk w' a y o ∧ OutsOk w' as ys r else OutsOk w' as ys od
  | _ :: _, [], _ => False
def PtrR (rd : DRes) (v : Value) : Prop := ∃ (d : Dec) (z : Nat) (row : List DT), rd = [(false, [.s .own d z [row], .any])] ∧ v = .pointer (some ⟨d.b, d.o, none⟩)
structure RetOk (w : World) (X : List Nat) (w' : World) (bx : List Nat) (od rd : DRes) (v : Value) : Prop where
  val : (∃ r, rd = [r] ∧ VPart r v) ∨ (rd.length ≠ 1 ∧ VS [] (.tup rd) v) ∨ PtrR rd v
  fine : ∀ r ∈ od ++ rd, ∀ t ∈ r.2, t.fine = true
  holds : ∀ r ∈ od ++ rd, ∀ t ∈ r.2, Holds w' t
  own : ∀ r ∈ od ++ rd, ∀ t ∈ r.2, t.isOwn = true → OwnT w' t
  once : ∀ b, (resBl (od ++ rd)).count b + bx.count b ≤ 1
  new : ∀ b ∈ resBl (od ++ rd), (w.heap.size ≤ b ∨ b ∈ X) ∧ b < w'.heap.size
structure GrewH (X : List Nat) (w w' : World) : Prop where
  os : w'.os = w.os
  tape : w'.tape = w.tape
  output : w'.output = w.output
  size : w.heap.size ≤ w'.heap.size
  same : ∀ b, b < w.heap.size → b ∉ X → w'.heap[b]? = w.heap[b]?
theorem Grew.x {w w' : World} (g : Grew w w') (X : List Nat) : GrewH X w w' := ⟨g.os, g.tape, g.output, g.size, fun b h _ => g.same b h⟩
theorem GrewH.grew {w w' : World} (g : GrewH [] w w') : Grew w w' := ⟨g.os, g.tape, g.output, g.size, fun b h => g.same b h (by simp)⟩

abbrev Sem1 := FuncId → List (Sl Unit Unit) → Option URes
def CallsOk (P : Program) (C : Sem1) : Prop :=
  ∀ (f : FuncId) (as : List (Sl Unit Unit)) (rs : URes), C f as = some rs → ∀ (w : World) (X : List Nat) (ad : List DSl) (vs : List Value), ad.map Sl.er = as → ArgsOk w X ad vs →
    Calls P f vs.toArray w fun e w' => ∃ v od rd, e = .returned v ∧ GrewH X w w' ∧ erR (od ++ rd) = rs ∧ OutsOk w' ad vs od ∧ RetOk w X w' (ad.flatMap boxBl) od rd v
theorem OutsOk.none {w' : World} : ∀ {ad : List DSl} {vs : List Value} {od : DRes}, (∀ a ∈ ad, a.isHome = false) → OutsOk w' ad vs od → od = []
  | [], _, _, _, h => h
  | a :: as, [], _, _, h => h.elim
  | a :: as, y :: ys, od, hh, h => by
    unfold OutsOk at h
    rw [hkOf_none (hh a (by simp))] at h
    exact OutsOk.none (fun a' h' => hh a' (by simp [h'])) h
theorem OutsOk.one {w' : World} {s : DSl} {y : Value} (hs : (hkOf s).isSome = true) : ∀ {i : Nat} {ad : List DSl} {vs : List Value} {od : DRes}, OneHome s y i ad vs → OutsOk w' ad vs od → ∃ o, od = [o] ∧ OutOk w' s y o
  | i, [], _, _, h, _ => by cases i <;> exact h.elim
  | i, a :: as, [], _, h, _ => by cases i <;> exact h.elim
  | 0, a :: as, v :: vs, od, h, g => by
    obtain ⟨rfl, rfl, h3⟩ := h
    unfold OutsOk at g
    rw [hs] at g
    obtain ⟨o, r, rfl, g1, g2⟩ := g
    rw [OutsOk.none h3 g2]
    exact ⟨o, rfl, g1⟩
  | i + 1, a :: as, v :: vs, od, h, g => by
    obtain ⟨h1, h2⟩ := h
    unfold OutsOk at g
    rw [hkOf_none h1] at g
    exact OutsOk.one hs h2 g
theorem OneHome.box {s : DSl} {y : Value} : ∀ {i : Nat} {ad : List DSl} {vs : List Value}, OneHome s y i ad vs → ad.flatMap boxBl = boxBl s
  | i, [], _, h => by cases i <;> exact h.elim
  | i, a :: as, [], h => by cases i <;> exact h.elim
  | 0, a :: as, v :: vs, h => by
    obtain ⟨rfl, rfl, h3⟩ := h
    rw [List.flatMap_cons, show as.flatMap boxBl = [] from noBoxes h3, List.append_nil]
  | i + 1, a :: as, v :: vs, h => by
    rw [List.flatMap_cons, noBox h.1, h.2.box]; rfl
section
variable {δ β : Type}
def nar (M : Mk δ β) (n : Nat) (s : Sl δ β) : Sl δ β :=
  match s with
  | .im k b ts off => if n ≠ 0 ∧ (off ≠ 0 ∨ n ≠ ts.length) ∧ off + n ≤ ts.length then .im k (M.at_ (M.ptr b) off 1) ((ts.drop off).take n) 0 else .im k b ts off
  | s => s
def narL (M : Mk δ β) : List Nat → List (Sl δ β) → List (Sl δ β)
  | n :: ns, s :: ss => nar M n s :: narL M ns ss
  | _, ss => ss
def argsW (M : Mk δ β) (tab : Tab) (f : FuncId) (D : St δ β) (xs : List Operand) : Option (List (Sl δ β)) := (argsOf M D xs).map (narL M ((tab.pw.lookup f).getD []))
end
theorem er_nar (n : Nat) (s : DSl) : nar mkU n s.er = (nar mkD n s).er := by
  cases s with
  | im k b ts off =>
    simp only [nar, Sl.er, List.length_map]
    split
    · simp only [Sl.er, erL, List.map_take, List.map_drop]
    · rfl
  | _ => rfl
theorem er_narL : ∀ (ns : List Nat) (ss : List DSl), narL mkU ns (ss.map Sl.er) = (narL mkD ns ss).map Sl.er
  | [], ss => by cases ss <;> rfl
  | n :: ns, [] => rfl
  | n :: ns, s :: ss => by simp only [List.map_cons, narL, er_nar, er_narL ns ss]
theorem er_argsW (tab : Tab) (f : FuncId) (D : DSt) (xs : List Operand) : argsW mkU tab f (erD D) xs = (argsW mkD tab f D xs).map (List.map Sl.er) := by
  unfold argsW
  rw [er_argsOf, Option.map_map, Option.map_map]
  congr 1
  funext ss
  exact er_narL _ ss
theorem AOk.nar {w : World} {X : List Nat} {a : DSl} {y : Value} (n : Nat) (h : AOk w X a y) (hh : a.isHome = false) : AOk w X (Am.nar mkD n a) y ∧ (Am.nar mkD n a).isHome = false := by
  cases a with
  | im k b ts off =>
    simp only [Am.nar]
    split
    · rename_i hc
      have hb : (mkD.at_ (mkD.ptr b) off 1) = (b.1, b.2 + off) := by simp [mkD]
      rw [hb]
      have hsub : ∀ u ∈ (ts.drop off).take n, u ∈ ts := fun u hu => List.mem_of_mem_drop (List.mem_of_mem_take hu)
      have hm := h.mem
      refine ⟨⟨fun D => ?_, ⟨fun u hu => hm.1 u (hsub u hu), fun u hu => by simp [rootsO] at hu, ?_⟩, fun D => ?_, own_none rfl⟩, rfl⟩
      · have := h.val D
        exact this
      · obtain ⟨c, e, f, q1, q2⟩ := hm.2.2
        refine ⟨c, e, f, q1, fun j u hj => ?_⟩
        have hj' : ts[off + j]? = some u := by
          rw [List.getElem?_take] at hj
          split at hj
          · rwa [List.getElem?_drop] at hj
          · cases hj
        obtain ⟨z, z1, z2⟩ := q2 (off + j) u hj'
        exact ⟨z, by simpa [Nat.add_assoc] using z1, z2⟩
      · have hk := h.kind D
        cases k with
        | own => exact hk
        | far => exact ⟨hk.1, fun u hu => hk.2 u (hsub u hu)⟩
        | lent h' c fl =>
          obtain ⟨t, q1, q2, q3, q4⟩ := hk
          exact ⟨t, q1, q2, q3, fun u hu => q4 u (hsub u hu)⟩
    · exact ⟨h, hh⟩
  | _ => exact ⟨h, hh⟩
theorem ArgsOk.narL {w : World} {X : List Nat} : ∀ (ns : List Nat) {ad : List DSl} {vs : List Value}, ArgsOk w X ad vs → (∀ s ∈ ad, s.isHome = false) → ArgsOk w X (Am.narL mkD ns ad) vs ∧ ∀ s ∈ Am.narL mkD ns ad, s.isHome = false
  | [], ad, vs, h, hh => by cases ad <;> exact ⟨h, hh⟩
  | n :: ns, [], vs, h, hh => ⟨h, hh⟩
  | n :: ns, a :: as, [], h, hh => by have := h.1; simp at this
  | n :: ns, a :: as, y :: ys, h, hh => by
    have h0 := h.2.1 0 a y rfl rfl
    obtain ⟨k1, k2⟩ := h0.nar n (hh a (by simp))
    have hr : ArgsOk w X as ys := ⟨by simpa using h.1, fun i a' y' q1 q2 => h.2.1 (i + 1) a' y' (by simpa using q1) (by simpa using q2), fun b => by
      have := h.2.2 b
      rw [List.flatMap_cons, List.count_append] at this
      omega⟩
    obtain ⟨m1, m2⟩ := ArgsOk.narL ns hr fun s hs => hh s (by simp [hs])
    refine ⟨m1.consN k1 k2, fun s hs => ?_⟩
    rcases List.mem_cons.1 hs with rfl | hs
    · exact k2
    · exact m2 s hs
theorem Inv.argsW {cx : Cx} {D : DSt} {P : List (DT × Value)} {a : Act} {w : World} (I : Inv cx D P a.tmps w) {X : List Nat} (hX : Out cx D X) {tab : Tab} {f : FuncId} {xs : List Operand} {ad : List DSl} (e : Am.argsW mkD tab f D xs = some ad) :
    ArgsOk w X ad (xs.map a.eval) ∧ ∀ s ∈ ad, s.isHome = false := by
  unfold Am.argsW at e
  rw [Option.map_eq_some_iff] at e
  obtain ⟨ad0, h1, rfl⟩ := e
  obtain ⟨h2, h3⟩ := I.argsOf hX h1
  exact h2.narL _ h3
end Go.Proofs.Ytalapefcbodhaaa.Am
namespace Go.Proofs.Ytalapefcbodhaaa.Am
set_option linter.unusedVariables false
set_option linter.unusedSimpArgs false
open Go

section
variable {δ β : Type}
def ptrCell (M : Mk δ β) : T δ → Option (β × List (T δ))
  | .s .own d z [row] => if row.all T.fine = true then some (M.at_ d 0 z, row) else none
  | _ => none
def ptrOf (M : Mk δ β) (r : Bool × List (T δ)) : Option (β × List (T δ)) :=
  match r.1, r.2 with
  | false, [t, .any] => ptrCell M t
  | _, _ => none
def retSl (M : Mk δ β) : List (Bool × List (T δ)) → Option (Sl δ β)
  | [r] => match ptrOf M r with | some (b, row) => some (.box b row) | none => slOf r.1 r.2
  | rs => some (.tup rs)
def putRet (M : Mk δ β) (D : St δ β) (dst : Option Nat) (rs : List (Bool × List (T δ))) : Option (St δ β) :=
  match dst with
  | none => some D
  | some t => if t < D.length then (retSl M rs).map fun s => putSl D (some t) s else none
def boolAt (D : St δ β) (t : Nat) : Option Bool :=
  match D[t]? with
  | some (.one (.v (.bool b))) => some b
  | _ => none
def boolOf (M : Mk δ β) (D : St δ β) (x : Operand) : Option Bool :=
  match opd M.nil D x with
  | some (.one (.v (.bool b))) => some b
  | _ => none
end

theorem KindT_fine {cx : Cx} {D : DSt} {t : DT} (h : t.fine = true) : KindT cx D t := by
  cases t with
  | v x => trivial
  | any => trivial
  | s k d z r => cases k <;> first | trivial | cases h

theorem Inv.dropP {cx : Cx} {D : DSt} {P : List (DT × Value)} {tm : Array Value} {w : World} (I : Inv cx D P tm w) : Inv cx D [] tm w where
  size := I.size
  val := I.val
  mem := I.mem
  kind := I.kind
  pend := fun p hp => by cases hp
  once := fun b => by have := I.once b; rw [cntP_nil]; omega
  bnd := fun b hb => I.bnd b (by rw [cntP_nil] at hb; omega)
  frame := I.frame
def PendOf (P : List (DT × Value)) (ts : List DT) : Prop := P.map (·.1) = ts ∧ ∀ p ∈ P, VT p.1 p.2
theorem PendOf.cnt {P : List (DT × Value)} {ts : List DT} (h : PendOf P ts) (b : Nat) : cntP P b = (ts.flatMap ownR).count b := by
  unfold cntP
  rw [← h.1, List.flatMap_map]
theorem pend_exists : ∀ {ts : List DT}, (∀ t ∈ ts, ∃ y, VT t y) → ∃ P, PendOf P ts
  | [], _ => ⟨[], rfl, fun p hp => by cases hp⟩
  | t :: ts, h => by
    obtain ⟨y, hy⟩ := h t (by simp)
    obtain ⟨P, h1, h2⟩ := pend_exists (ts := ts) fun u hu => h u (by simp [hu])
    refine ⟨(t, y) :: P, by simp [h1], fun p hp => ?_⟩
    rcases List.mem_cons.1 hp with rfl | hp
    · exact hy
    · exact h2 p hp
theorem VCells.each {ts : List DT} {ys : List Value} (h : VCells ts ys) : ∀ t ∈ ts, ∃ y, VT t y := by
  intro t ht
  obtain ⟨i, hi⟩ := List.getElem?_of_mem ht
  have hlt : i < ys.length := by
    rw [← h.1]
    rcases Nat.lt_or_ge i ts.length with g | g
    · exact g
    · rw [List.getElem?_eq_none g] at hi; cases hi
  exact ⟨_, h.2 i t ys[i] hi (List.getElem?_eq_getElem hlt)⟩
theorem VPart.each {r : Bool × List DT} {y : Value} (h : VPart r y) : ∀ t ∈ r.2, ∃ y, VT t y := by
  unfold VPart at h
  split at h
  · obtain ⟨cs, _, h⟩ := h
    exact h.each
  · obtain ⟨t, h1, h2⟩ := h
    intro u hu
    rw [h1, List.mem_singleton] at hu
    subst hu
    exact ⟨_, h2⟩
theorem resBl_cells (rd : DRes) : resBl rd = (rd.flatMap (·.2)).flatMap ownR := by
  unfold resBl
  rw [List.flatMap_assoc]
theorem RetOk.each {w : World} {X : List Nat} {w' : World} {bx : List Nat} {od rd : DRes} {v : Value} (R : RetOk w X w' bx od rd v) : ∀ t ∈ rd.flatMap (·.2), ∃ y, VT t y := by
  intro t ht
  obtain ⟨r, hr, ht⟩ := List.mem_flatMap.1 ht
  rcases R.val with ⟨r', h1, h2⟩ | ⟨_, vs, _, h2, h3⟩ | ⟨d, z, row, h1, _⟩
  · rw [h1, List.mem_singleton] at hr
    subst hr
    exact h2.each t ht
  rotate_left
  · rw [h1, List.mem_singleton] at hr
    subst hr
    simp only [List.mem_cons, List.not_mem_nil, or_false] at ht
    rcases ht with rfl | rfl
    · exact ⟨_, rfl⟩
    · exact ⟨.bool true, rfl⟩
  · obtain ⟨i, hi⟩ := List.getElem?_of_mem hr
    have hlt : i < vs.toList.length := by
      rw [← h2]
      rcases Nat.lt_or_ge i rd.length with g | g
      · exact g
      · rw [List.getElem?_eq_none g] at hi; cases hi
    exact (h3 i r vs.toList[i] hi (List.getElem?_eq_getElem hlt)).each t ht
theorem Inv.world {cx : Cx} {D : DSt} {P P' : List (DT × Value)} {tm : Array Value} {w w' : World} (I : Inv cx D P tm w) {X : List Nat} (hX : Out cx D X) (g : GrewH X w w')
    (hp : ∀ p ∈ P', VT p.1 p.2 ∧ Holds w' p.1 ∧ (p.1.isOwn = true → OwnT w' p.1) ∧ (p.1.isOwn = false → ∀ x ∈ bl p.1, cx.far x))
    (h1 : ∀ b, 0 < cntP P' b → cntP P' b ≤ 1 ∧ cntD D b = 0 ∧ cx.may b ∧ b < w'.heap.size) : Inv cx D P' tm w' := by
  have same : ∀ b, (Cx.mk w X).far b → w'.heap[b]? = w.heap[b]? := fun b h => g.same b h.1 h.2
  have outO : ∀ s ∈ D, ∀ b ∈ ownBl s, (Cx.mk w X).far b := fun s hs b hb => I.out_own hX hs hb
  have outT : ∀ s ∈ D, ∀ t ∈ rootsO s, KindT cx D t → ∀ b ∈ bl t, (Cx.mk w X).far b := by
    intro s hs t ht hk b hb
    cases ho : t.isOwn with
    | false => exact I.out_kind hX hk ho b hb
    | true =>
      refine outO s hs b ?_
      have : b ∈ ownR t := by simp [ownR, ho, hb]
      cases s with
      | one u => simp [rootsO] at ht; subst ht; exact this
      | agg ts => exact List.mem_flatMap.2 ⟨t, ht, this⟩
      | box b' ts => exact List.mem_cons_of_mem _ (List.mem_flatMap.2 ⟨t, ht, this⟩)
      | tup rs =>
        simp only [rootsO, List.mem_flatMap] at ht
        obtain ⟨r, hr, ht⟩ := ht
        exact List.mem_flatMap.2 ⟨r, hr, List.mem_flatMap.2 ⟨t, ht, this⟩⟩
      | _ => simp [rootsO] at ht
  have outIm : ∀ (b : Nat) (ts : List DT) (k : Kd), KindIm cx D k b ts → (Cx.mk w X).far b ∧ ∀ t ∈ ts, ∀ x ∈ bl t, (Cx.mk w X).far x := by
    intro b ts k hk
    cases k with
    | own => exact hk.elim
    | far => exact ⟨I.farX hX hk.1, fun t ht x hx => I.farX hX (hk.2 t ht x hx)⟩
    | lent h c fl =>
      obtain ⟨t', q1, q2, q3, q4⟩ := hk
      obtain ⟨s, g1, g2, g3, g3', g4⟩ := cellAt_mem q1
      exact ⟨outO s g2 _ (g4 q2 _ q3), fun t ht x hx => outO s g2 _ (g4 q2 _ (q4 t ht x hx))⟩
  have lies : ∀ (b : Nat × Nat) (ts : List DT), (Cx.mk w X).far b.1 → Lies w b ts → Lies w' b ts := by
    rintro b ts hf ⟨c, e, f, q1, q2⟩
    exact ⟨c, e, f, by rw [same _ hf]; exact q1, q2⟩
  refine ⟨I.size, I.val, fun s hs => ?_, I.kind, hp, fun b => ?_, fun b hb => ?_, ?_⟩
  · have hm := I.mem s hs
    have hk := I.kind s hs
    have roots : ∀ t ∈ rootsOf s, ∀ b ∈ bl t, (Cx.mk w X).far b := by
      intro t ht
      cases s with
      | one u => exact outT _ hs t ht (hk t ht)
      | agg ts => exact outT _ hs t ht (hk t ht)
      | box b' ts => exact outT _ hs t ht (hk t ht)
      | tup rs => exact outT _ hs t ht (hk t ht)
      | im k b ts off => exact (outIm _ _ _ hk).2 t ht
      | fni f caps =>
        simp only [rootsOf, List.mem_flatMap] at ht
        obtain ⟨p, hp, ht⟩ := ht
        exact fun x hx => I.farX hX ((hk p hp).2 t ht x hx)
      | _ => simp [rootsOf] at ht
    refine ⟨fun t ht => (hm.1 t ht).frame fun b hb _ => same b (roots t ht b hb), fun t ht ho => (hm.2.1 t ht ho).frame fun b hb _ => same b (outT s hs t ht (by
      cases s with
      | one u => exact hk t ht
      | agg ts => exact hk t ht
      | box b' ts => exact hk t ht
      | tup rs => exact hk t ht
      | _ => simp [rootsO] at ht) b hb), ?_⟩
    cases s with
    | box b ts =>
      have hf := outO _ hs b.1 (by simp [ownBl])
      refine ⟨lies b ts hf hm.2.2.1, fun c e lo hi hc => hm.2.2.2 c e lo hi ?_⟩
      rw [← same _ hf]; exact hc
    | im k b ts off => exact lies b ts (outIm _ _ _ hk).1 hm.2.2
    | fni f caps => exact fun p hp => lies p.1 p.2 (I.farX hX (hk p hp).1) (hm.2.2 p hp)
    | _ => trivial
  · have q := I.once b
    rcases Nat.eq_zero_or_pos (cntP P' b) with z | z
    · omega
    · have := h1 b z; omega
  · rcases Nat.eq_zero_or_pos (cntP P' b) with z | z
    · have := I.bnd b (by omega)
      exact ⟨this.1, Nat.lt_of_lt_of_le this.2 g.size⟩
    · exact (h1 b z).2.2
  · have f := I.frame
    exact ⟨by rw [g.os, f.os], by rw [g.tape, f.tape], by rw [g.output, f.output], Nat.le_trans f.size g.size, fun b hb => by rw [g.same b (Nat.lt_of_lt_of_le hb.1 f.size) fun q => Cx.far_not hb (hX b q).1]; exact f.same b hb⟩
theorem RetOk.pend {w : World} {X : List Nat} {w' : World} {bx : List Nat} {od rd : DRes} {v : Value} (R : RetOk w X w' bx od rd v) {ts : List DT} (hts : ∀ t ∈ ts, ∃ r ∈ od ++ rd, t ∈ r.2) {P : List (DT × Value)} (hP : PendOf P ts) (cx : Cx) :
    ∀ p ∈ P, VT p.1 p.2 ∧ Holds w' p.1 ∧ (p.1.isOwn = true → OwnT w' p.1) ∧ (p.1.isOwn = false → ∀ x ∈ bl p.1, cx.far x) := by
  intro p hp
  obtain ⟨r, hr, ht⟩ := hts p.1 (by rw [← hP.1]; exact List.mem_map.2 ⟨p, hp, rfl⟩)
  refine ⟨hP.2 p hp, R.holds r hr _ ht, R.own r hr _ ht, fun ho x hx => ?_⟩
  rcases fine_noLent (R.fine r hr _ ht) with q | q
  · rw [ho] at q; cases q
  · rw [q] at hx; cases hx

theorem fine_bl : ∀ {ts : List DT}, (∀ t ∈ ts, t.fine = true) → ts.flatMap bl = ts.flatMap ownR
  | [], _ => rfl
  | t :: ts, h => by
    rw [List.flatMap_cons, List.flatMap_cons, fine_bl fun u hu => h u (by simp [hu])]
    congr 1
    have := h t (by simp)
    cases t with
    | v x => simp [ownR, T.isOwn, bl]
    | any => simp [ownR, T.isOwn, bl]
    | s k d z r => cases k <;> first | (simp [ownR, T.isOwn]; done) | cases this
theorem RetOk.ptr {w : World} {X : List Nat} {w' : World} {bx : List Nat} {od rd : DRes} {v : Value} (R : RetOk w X w' bx od rd v) {r : Bool × List DT} (hr : rd = [r]) {b : Nat × Nat} {row : List DT} (hp : ptrOf mkD r = some (b, row)) :
    v = .pointer (some ⟨b.1, b.2, none⟩) ∧ Lies w' b row ∧ Free w' b row.length ∧ (∀ u ∈ row, Holds w' u ∧ (u.isOwn = true → OwnT w' u) ∧ u.fine = true) ∧ ∀ x, (b.1 :: row.flatMap ownR).count x = (resBl rd).count x := by
  subst hr
  obtain ⟨g, ts⟩ := r
  unfold ptrOf at hp
  split at hp
  case h_2 => cases hp
  rename_i t hg hts
  simp only at hg hts
  subst hg; subst hts
  unfold ptrCell at hp
  split at hp
  case h_2 => cases hp
  rename_i d z row'
  split at hp
  case isFalse => cases hp
  rename_i hf
  cases hp
  have hfine : ∀ u ∈ row, u.fine = true := fun u hu => List.all_eq_true.1 hf u hu
  have hv : v = .pointer (some ⟨d.b, d.o, none⟩) := by
    rcases R.val with ⟨r', h1, h2⟩ | ⟨h1, _⟩ | ⟨d', z', row', h1, h2⟩
    · cases h1
      simp only [VPart, Bool.false_eq_true, if_false] at h2
      obtain ⟨t, ht, _⟩ := h2
      cases ht
    · exact absurd rfl h1
    · simp only [List.cons.injEq, Prod.mk.injEq, T.s.injEq, true_and, and_true] at h1
      obtain ⟨rfl, rfl, rfl⟩ := h1
      exact h2
  have hH := R.holds (false, [.s .own d z [row], .any]) (by simp) (.s .own d z [row]) (by simp)
  have hO := R.own (false, [.s .own d z [row], .any]) (by simp) (.s .own d z [row]) (by simp) rfl
  have e0 : (mkD.at_ d 0 z) = (d.b, d.o) := by simp [mkD]
  rw [e0]
  cases hH with
  | s _ _ _ _ q1 q2 c e f q3 q4 q5 q6 q7 =>
    have hz := q5 0 row rfl
    cases hO with
    | s _ _ _ p1 p2 c' e' lo hi p3 p4 p5 p6 p7 =>
      refine ⟨hv, ⟨c, e, f, q3, fun j t ht => ?_⟩, fun c2 e2 lo2 hi2 hc x h1 h2 => ?_, fun u hu => ?_, fun x => ?_⟩
      · have := q6 0 row j t rfl ht
        simpa using this
      · rw [p3] at hc
        cases hc
        refine p6 x h1 ?_
        have : 1 * z ≤ d.cap * z := Nat.mul_le_mul_right z (by simpa using p4)
        simp only at h2
        omega
      · obtain ⟨j, hj⟩ := List.getElem?_of_mem hu
        exact ⟨q7 0 row j u rfl hj, fun _ => p7 0 row j u rfl hj, hfine u hu⟩
      · have : resBl ([(false, [.s .own d z [row], .any])] : DRes) = d.b :: row.flatMap ownR := by
          simp only [resBl, List.flatMap_cons, List.flatMap_nil, List.append_nil, ownR, T.isOwn, if_true, bl_s, q1]
          simp [← fine_bl hfine]
        rw [this]

theorem Inv.putRetP {cx : Cx} {D D' : DSt} {P : List (DT × Value)} {a : Act} {w w' : World} (I : Inv cx D P a.tmps w') {X : List Nat} {bx : List Nat} {od rd : DRes} {v : Value} (R : RetOk w X w' bx od rd v) (hP : PendOf P (rd.flatMap (·.2))) {dst : Option Nat}
    (e : putRet mkD D dst rd = some D') : Inv cx D' [] (a.put dst v).tmps w' := by
  unfold Am.putRet at e
  split at e
  · cases e; exact I.dropP
  · rename_i t
    split at e
    case isFalse => cases e
    rename_i ht
    rw [Option.map_eq_some_iff] at e
    obtain ⟨s, hs, rfl⟩ := e
    have hall : VS D s v ∧ (∀ x, (ownBl s).count x ≤ (resBl rd).count x) ∧ (∀ u ∈ rootsOf s, Holds w' u ∧ u.fine = true) ∧ (∀ u ∈ rootsO s, u.isOwn = true → OwnT w' u) ∧ MemX w' s ∧ (∀ k b ts off, s ≠ .im k b ts off) ∧ (∀ f caps, s ≠ .fni f caps) := by
      have hin : ∀ r ∈ rd, ∀ u ∈ r.2, Holds w' u ∧ u.fine = true := fun r hr u hu => ⟨R.holds r (by simp [hr]) u hu, R.fine r (by simp [hr]) u hu⟩
      have hin' : ∀ r ∈ rd, ∀ u ∈ r.2, u.isOwn = true → OwnT w' u := fun r hr u hu ho => R.own r (by simp [hr]) u hu ho
      unfold retSl at hs
      split at hs
      · rename_i r
        split at hs
        · rename_i b row hp
          cases hs
          obtain ⟨p1, p2, p3, p4, p5⟩ := R.ptr rfl hp
          exact ⟨p1, fun x => Nat.le_of_eq (p5 x), fun u hu => ⟨(p4 u hu).1, (p4 u hu).2.2⟩, fun u hu => (p4 u hu).2.1, ⟨p2, p3⟩, by simp, by simp⟩
        · rename_i hnp
          obtain ⟨gb, ts⟩ := r
          rcases R.val with ⟨r, hr, hv⟩ | ⟨hne, _⟩ | ⟨d, z, row, hr, _⟩
          · cases hr
            cases gb with
            | true =>
              cases hs
              simp only [VPart, if_true] at hv
              exact ⟨hv, fun x => by simp [ownBl, resBl], fun u hu => hin _ (List.mem_singleton_self _) u hu, fun u hu => hin' _ (List.mem_singleton_self _) u hu, trivial, by simp, by simp⟩
            | false =>
              simp only [VPart, Bool.false_eq_true, if_false] at hv
              obtain ⟨t', rfl, h2⟩ := hv
              cases hs
              exact ⟨h2, fun x => by simp [ownBl, resBl], fun u hu => hin _ (List.mem_singleton_self _) u hu, fun u hu => hin' _ (List.mem_singleton_self _) u hu, trivial, by simp, by simp⟩
          · exact absurd rfl hne
          · cases hr
            cases hs
      · rename_i hne
        cases hs
        rcases R.val with ⟨r, hr, hv⟩ | ⟨_, hv⟩ | ⟨d, z, row, hr, _⟩
        · exact absurd hr (hne r)
        · refine ⟨hv, fun x => Nat.le_refl _, fun u hu => ?_, fun u hu => ?_, trivial, by simp, by simp⟩
          · simp only [rootsOf, List.mem_flatMap] at hu
            obtain ⟨r, hr, hu⟩ := hu
            exact hin r hr u hu
          · simp only [rootsO, List.mem_flatMap] at hu
            obtain ⟨r, hr, hu⟩ := hu
            exact hin' r hr u hu
        · exact absurd hr (hne _)
    obtain ⟨h1, h2, h3, h4, h5, h6, h7⟩ := hall
    have hk : KindS cx D s := by
      have hr : ∀ u ∈ rootsOf s, KindT cx D u := fun u hu => KindT_fine (h3 u hu).2
      cases s with
      | im k b ts off => exact absurd rfl (h6 k b ts off)
      | fni f caps => exact absurd rfl (h7 f caps)
      | _ => exact hr
    refine Inv.put (P := P) (Q := []) (by simpa using I) ht h1 ⟨fun u hu => (h3 u hu).1, h4, h5⟩ hk ?_
    intro b
    rw [hP.cnt, ← resBl_cells]; exact h2 b
theorem Inv.putRet {cx : Cx} {D D' : DSt} {a : Act} {w w' : World} (I : Inv cx D [] a.tmps w) (g : Grew w w') {bx : List Nat} {rd : DRes} {v : Value} (R : RetOk w [] w' bx [] rd v) {dst : Option Nat}
    (e : putRet mkD D dst rd = some D') : Inv cx D' [] (a.put dst v).tmps w' := by
  obtain ⟨P, hP⟩ := pend_exists R.each
  have I2 := I.world (Out.nil cx D) (g.x []) (R.pend (fun t ht => by
    obtain ⟨r, hr, ht⟩ := List.mem_flatMap.1 ht
    exact ⟨r, by simpa using hr, ht⟩) hP cx) (fun b hb => by
    rw [hP.cnt, ← resBl_cells] at hb ⊢
    have h1 := R.once b
    rw [List.nil_append] at h1
    obtain ⟨n1, n2⟩ := R.new b (by rw [List.nil_append]; exact List.count_pos_iff.1 hb)
    have n1' : w.heap.size ≤ b := n1.elim id fun q => by cases q
    refine ⟨by omega, ?_, .inl (Nat.le_trans I.frame.size n1'), n2⟩
    rcases Nat.eq_zero_or_pos (cntD D b) with q | q
    · exact q
    · have := (I.bnd b (by omega)).2; omega)
  exact I2.putRetP R hP e

theorem er_ptrCell (t : DT) : ptrCell mkU t.er = (ptrCell mkD t).map fun p => ((), erL p.2) := by
  cases t with
  | v x => rfl
  | any => rfl
  | s k d z rows =>
    rw [er_s]
    match rows with
    | [] => cases k <;> rfl
    | [row] =>
      cases k with
      | own =>
        simp only [List.map_cons, List.map_nil, ptrCell]
        rw [show (erL row).all T.fine = row.all T.fine from er_all T.fine T.fine er_fine row]
        split <;> rfl
      | far => rfl
      | lent h c fl => rfl
    | r1 :: r2 :: rs => cases k <;> rfl
theorem er_ptrOf (r : Bool × List DT) : ptrOf mkU (r.1, erL r.2) = (ptrOf mkD r).map fun p => ((), erL p.2) := by
  obtain ⟨g, ts⟩ := r
  cases g with
  | true => rfl
  | false =>
    match ts with
    | [] => rfl
    | [t] => rfl
    | [t, u] =>
      cases u with
      | any => exact er_ptrCell t
      | v x => rfl
      | s k d z r => simp only [erL, List.map_cons, List.map_nil, er_s]; rfl
    | t :: u :: v :: ts => cases u <;> rfl
theorem er_retSl (rd : DRes) : (retSl mkU (erR rd) : Option (Sl Unit Unit)) = (retSl mkD rd : Option DSl).map Sl.er := by
  match rd with
  | [] => rfl
  | [r] =>
    simp only [erR, List.map_cons, List.map_nil, retSl]
    rw [er_ptrOf]
    cases ptrOf mkD r with
    | none => exact er_slOf r.1 r.2
    | some p => rfl
  | r :: r' :: rs => rfl
theorem er_putRet (D : DSt) (dst : Option Nat) (rd : DRes) : putRet mkU (erD D) dst (erR rd) = (putRet mkD D dst rd).map erD := by
  cases dst with
  | none => rfl
  | some t =>
    simp only [putRet, er_len]
    split
    · rw [er_retSl]
      cases (retSl mkD rd : Option DSl) with
      | none => rfl
      | some s => simp only [Option.map_some, er_putSl]
    · rfl
theorem er_boolAt (D : DSt) (t : Nat) : boolAt (erD D) t = boolAt D t := by
  unfold boolAt
  rw [er_get]
  cases D[t]? with
  | none => rfl
  | some s =>
    cases s with
    | one u =>
      cases u with
      | s k d z r => simp [Sl.er, er_s]
      | v x => cases x <;> rfl
      | any => rfl
    | _ => rfl
theorem er_boolOf (D : DSt) (x : Operand) : boolOf mkU (erD D) x = boolOf mkD D x := by
  simp only [boolOf, er_opd1]
  cases opd mkD.nil D x with
  | none => rfl
  | some s =>
    cases s with
    | one u =>
      cases u with
      | s k d z r => simp [Sl.er, er_s]
      | v x => cases x <;> rfl
      | any => rfl
    | _ => rfl
theorem Inv.boolAt {cx : Cx} {D : DSt} {P : List (DT × Value)} {tm : Array Value} {w : World} (I : Inv cx D P tm w) {t : Nat} {b : Bool} (e : boolAt D t = some b) : tm[t]? = some (.bool b) := by
  unfold Am.boolAt at e
  split at e
  · rename_i b' h
    cases e
    have h1 := (I.val t _ h).1
    have hlt : t < tm.size := by
      rw [← I.size]
      rcases Nat.lt_or_ge t D.length with g | g
      · exact g
      · rw [List.getElem?_eq_none g] at h; cases h
    rw [Array.getD_eq_getD_getElem?, Array.getElem?_eq_getElem hlt] at h1
    rw [Array.getElem?_eq_getElem hlt]
    simpa using h1
  · cases e
theorem Inv.boolOf {cx : Cx} {D : DSt} {P : List (DT × Value)} {a : Act} {w : World} (I : Inv cx D P a.tmps w) {x : Operand} {b : Bool} (e : boolOf mkD D x = some b) : a.eval x = .bool b := by
  unfold Am.boolOf at e
  split at e
  · rename_i b' h
    cases e
    exact (I.opd h).val.1
  · cases e
theorem Inv.lose {cx : Cx} {D : DSt} {tm : Array Value} {w : World} (I : Inv cx D [] tm w) {t : Nat} (ht : t < D.length) : Inv cx (putSl D (some t) .any) [] tm w := by
  have h := Inv.put (P := []) (Q := []) (s := .any) (y := tm.getD t undef) (by simpa using I) ht trivial ⟨fun u hu => by simp [rootsOf] at hu, fun u hu => by simp [rootsO] at hu, trivial⟩
    (fun u hu => by simp [rootsOf] at hu) (fun b => by simp [ownBl])
  have hlt : t < tm.size := by rw [← I.size]; exact ht
  have : tm.setIfInBounds t (tm.getD t undef) = tm := by
    apply Array.ext
    · simp
    · intro i h1 h2
      rw [Array.getElem_setIfInBounds]
      split
      · rename_i e; subst e; simp [Array.getD, hlt]
      · rfl
  rw [this] at h
  exact h
theorem Inv.putAny {cx : Cx} {D : DSt} {a : Act} {w : World} (I : Inv cx D [] a.tmps w) {t : Nat} (ht : t < D.length) (y : Value) : Inv cx (Am.putA D t .any) [] (a.put (some t) y).tmps w :=
  I.putA ht ⟨trivial, ⟨fun u hu => by simp [rootsOf] at hu, fun u hu => by simp [rootsO] at hu, trivial⟩, fun u hu => by simp [rootsOf] at hu, rfl⟩
end Go.Proofs.Ytalapefcbodhaaa.Am
