/- The types and functions of the seat, as the machine takes them, and what 'others' tells. Conditions: none. -/
import Derived.Test.YtgpllfmogdpapaaAmc
import Derived.Shelf.SlicesE.DeleteFunc
import Derived.Test.YtgpllfmogdpapaaProg
import Derived.KernelRfl
import Derived.WalkKit
namespace Go.Proofs.Ytgpllfmogdpapaa.Am
set_option linter.unusedVariables false
set_option linter.unusedSimpArgs false
open Go Go.Proofs
set_option maxRecDepth 100000
def laysSlH10_f177_ren : Go.Shelf.Ren := ⟨fun | 10 => 177 | 6 => 195 | n => n, fun | 22 => 22 | 23 => 3 | 25 => 118 | 3 => 3 | 4 => 4 | 0 => 0 | n => n, fun | n => n⟩
theorem laysSlH10_f177 : Go.Proofs.SlLaysH.n10 Try.prog laysSlH10_f177_ren := {
  mixed := by kernel_rfl
  f6 := ⟨Try.f195.name, by decide, Try.func195.trans (congrArg some (by kernel_rfl))⟩
  f10 := ⟨Try.f177.name, by decide, Try.func177.trans (congrArg some (by kernel_rfl))⟩
  t0 := Try.underlying0
  a0 := Try.isAgg0
  z0 := Try.sizeOf0
  v0 := Try.zeroValue0
  t3 := Try.underlying3
  a3 := Try.isAgg3
  z3 := Try.sizeOf3
  v3 := Try.zeroValue3
  t4 := Try.underlying4
  a4 := Try.isAgg4
  z4 := Try.sizeOf4
  v4 := Try.zeroValue4
  t22 := Try.underlying22
  a22 := Try.isAgg22
  z22 := Try.sizeOf22
  v22 := Try.zeroValue22
  a23 := Try.isAgg3
  z23 := Try.sizeOf3
  t25 := Try.underlying118
  a25 := Try.isAgg118
  z25 := Try.sizeOf118
  v25 := Try.zeroValue118 }
theorem kit_DeleteFunc {α : Type} [Inhabited α] (enc : α → Value) (hO : OneCell enc) (p : α → Bool) (g : Nat) (lb : Array Value) (eg : ∀ args w, (callFunc g args).run Try.prog w = .ok (.enter g args) w) (zr : α) (v23 : ∀ w, (zeroValue 3).run Try.prog w = .ok (enc zr) w) (blk off cap : Nat) (d : Array α) (w : World) (hp : PredAt Try.prog g lb enc p w) (hpo : PredOver Try.prog g lb enc p blk off d.size w) (hH : Go.Sort.Holds enc w blk off d) (hsz : d.size ≤ 9223372036854775807) (hcap : d.size ≤ cap) :
    Calls Try.prog 177 #[.slice (some ⟨blk, off, none⟩) d.size cap, .func (.func g) #[] lb] w fun e w' => e = .returned (.slice (some ⟨blk, off, none⟩) (d.toList.filter fun x => !p x).length cap) ∧ ∃ q, w' = Go.Sort.putRow enc (Go.Sort.ahead w q) blk off ((d.toList.filter fun x => !p x) ++ List.replicate (d.size - (d.toList.filter fun x => !p x).length) zr).toArray := AnyE.slices_DeleteFunc laysSlH10_f177 enc hO p g lb eg zr v23 blk off cap d w hp hpo hH hsz hcap

theorem wpList_value {P : Program} {ops : Array Oper} {Q : Exit → Act → World → Prop} {a : Act} {w w' : World} {rest : List Oper} {o : Oper} {y : Value} (hg : o.guard = none) (h : (execOp a.eval o).run P w = .ok (.value y) w')
    (k : wpList P ops Q rest (a.put o.dst y) w') : wpList P ops Q (o :: rest) a w := by
  unfold wpList
  rw [if_pos (by simp [Region.wanted, hg])]
  left
  unfold Oper.wp
  rw [h]
  exact k
theorem wpList_enter {P : Program} {ops : Array Oper} {Q : Exit → Act → World → Prop} {a : Act} {w : World} {rest : List Oper} {o : Oper} {f : FuncId} {args : Array Value} (hg : o.guard = none) (h : (execOp a.eval o).run P w = .ok (.enter f args) w)
    (k : Calls P f args w fun e w' => ∃ v, e = .returned v ∧ wpList P ops Q rest (a.put o.dst v) w') : wpList P ops Q (o :: rest) a w := by
  unfold wpList
  rw [if_pos (by simp [Region.wanted, hg])]
  left
  unfold Oper.wp
  rw [h]
  refine k.mono ?_
  rintro e w' ⟨v, rfl, hv⟩
  exact hv
def intsOf : List (List (T Unit)) → Option (List Int)
  | [] => some []
  | [.v (.int .i64 n)] :: r => (intsOf r).map (n :: ·)
  | _ => none
theorem intsOf_map : ∀ (l : List Int), intsOf (l.map etI) = some l
  | [] => rfl
  | n :: l => by
    show (intsOf (l.map etI)).map _ = _
    rw [intsOf_map l]; rfl
theorem intsOf_D : ∀ {rows : List (List DT)} {l : List Int}, intsOf (rows.map erL) = some l → rows = rowV (Value.int .i64) l
  | [], l, h => by cases h; rfl
  | r :: rows, l, h => by
    match r with
    | [] => cases h
    | [t] =>
      cases t with
      | any => cases h
      | s k d z q => simp only [List.map_cons, erL, List.map_nil, er_s] at h; cases h
      | v x =>
        cases x with
        | int k n =>
          cases k with
          | i64 =>
            have h' : (intsOf (rows.map erL)).map (n :: ·) = some l := h
            rw [Option.map_eq_some_iff] at h'
            obtain ⟨l', h1, rfl⟩ := h'
            rw [intsOf_D h1]; rfl
          | _ => cases h
        | _ => cases h
    | t :: u :: r => cases t with
      | v x => cases x with
        | int k n => cases k <;> cases h
        | _ => cases h
      | any => cases h
      | s k d z q => simp only [List.map_cons, erL, er_s] at h; cases h
def othersOrc (C : Sem1) : List (Sl Unit Unit) → Option URes
  | [.im .far () (.v (.int .i64 id) :: ts) 0] =>
    match C 16 [.agg (.v (.int .i64 id) :: ts.map (T.view .far))] with
    | some [(false, [.s .own () 1 rows])] => (intsOf rows).bind fun l => if l ≠ [] ∧ ts.length + 1 = 14 ∧ l.length ≤ 1050000 then some [(false, [.s .own () 1 ((l.filter fun x => !(x == id)).map etI)])] else none
    | _ => none
  | _ => none
theorem gives178 (id x : Int) (B : Nat) (a : Nat × Nat) (W : World) (h1 : W.cell? ⟨B, 0, none⟩ = some (.pointer (some ⟨a.1, a.2, none⟩))) (h2 : W.cell? ⟨a.1, a.2, none⟩ = some (.int .i64 id)) :
    FnGives Try.prog 178 #[.pointer (some ⟨B, 0, none⟩)] #[.int .i64 x] (.bool (x == id)) W := by
  show Calls Try.prog 178 #[.int .i64 x, .pointer (some ⟨B, 0, none⟩)] W _
  go_enter Try.func178, Try.ntmps178
  go_wp2
  all_goals (go_ret; exact ⟨by simp_all, 0, rfl⟩)
theorem exec_load {P : Program} {a : Act} {w : World} {o : Oper} {t : TypeId} {x : Operand} {y v : Value} (hop : o.op = .load t x) (hx : a.eval x = y) (h : (Instr.loadAt t y).run P w = .ok v w) : (execOp a.eval o).run P w = .ok (.value v) w := by
  simp [execOp, hop, hx, h]
theorem far_er {ad : List DSl} {t0 : T Unit} {ts : List (T Unit)} (h : ad.map Sl.er = [.im .far () (t0 :: ts) 0]) : ∃ (b : Nat × Nat) (tsD : List DT), ad = [.im .far b tsD 0] ∧ erL tsD = t0 :: ts := by
  match ad with
  | [] => cases h
  | [s] =>
    cases s with
    | im k b tsD off =>
      simp only [List.map_cons, List.map_nil, Sl.er, List.cons.injEq, Sl.im.injEq, and_true] at h
      obtain ⟨rfl, _, h2, rfl⟩ := h
      exact ⟨b, tsD, rfl, h2⟩
    | one u => simp [Sl.er] at h
    | _ => simp [Sl.er] at h
  | s :: s' :: r => simp at h
theorem cell_same {w w' : World} {b : Nat} (h : w'.heap[b]? = w.heap[b]?) (o : Nat) : w'.cell? ⟨b, o, none⟩ = w.cell? ⟨b, o, none⟩ := by
  unfold World.cell?
  simp only [h]
def TI36 : TI := ⟨14, 176, [tI (0 : Int), tI (0 : Int), tI (0 : Int), tI (0 : Int), tI (0 : Int), .s .own () 1 [], tI (0 : Int), tI (0 : Int), .s .own () 3 [], tI (0 : Int), tI (0 : Int), tI (0 : Int), .s .own () 1 [], .s .own () 4 []], .struct [0, 1, 2, 3, 4, 5, 6, 9, 10, 11, 12, 13]⟩
theorem RetOk.row {w w' : World} {X : List Nat} {bx : List Nat} {rd : DRes} {v : Value} (R : RetOk w X w' bx [] rd v) {z : Nat} {rows : List (List (T Unit))} (h : erR rd = [(false, [.s .own () z rows])]) :
    ∃ d rowsD, rd = [(false, [.s .own d z rowsD])] ∧ rowsD.map erL = rows ∧ v = .slice d.addr rowsD.length d.cap ∧ Holds w' (.s .own d z rowsD) ∧ OwnT w' (.s .own d z rowsD) := by
  match rd, h, R with
  | [(g, ts)], h, R =>
    simp only [erR, List.map_cons, List.map_nil, List.cons.injEq, Prod.mk.injEq, and_true] at h
    obtain ⟨rfl, h⟩ := h
    match ts, h, R with
    | [t], h, R =>
      simp only [erL, List.map_cons, List.map_nil, List.cons.injEq, and_true] at h
      cases t with
      | v x => rw [er_v] at h; cases h
      | any => cases h
      | s k d z' r =>
        rw [er_s] at h
        simp only [T.s.injEq, true_and] at h
        obtain ⟨e1, e2, e3⟩ := h
        subst e1; subst e2
        refine ⟨d, r, rfl, e3, ?_, R.holds _ (List.mem_singleton_self _) _ (List.mem_singleton_self _), R.own _ (List.mem_singleton_self _) _ (List.mem_singleton_self _) rfl⟩
        rcases R.val with ⟨r', h1, h2⟩ | ⟨h1, _⟩ | ⟨d', z'', row, h1, _⟩
        · cases h1
          simp only [VPart, Bool.false_eq_true, if_false] at h2
          obtain ⟨t, ht, hv⟩ := h2
          cases ht
          exact hv
        · exact absurd rfl h1
        · cases h1
    | [], h, R => simp [erL] at h
    | t :: u :: ts, h, R => simp [erL] at h
  | [], h, R => simp [erR] at h
  | a :: b :: c, h, R => simp [erR] at h
theorem node_ti : tiOf Try.prog 36 = some TI36 := by kernel_rfl
theorem enter178 : ∀ args w, (callFunc 178 args).run Try.prog w = .ok (.enter 178 args) w := enters_of Try.func178 (by kernel_rfl) rfl
set_option maxHeartbeats 2000000 in
theorem others_ok {C : Sem1} (hC : CallsOk Try.prog C) {us : List (Sl Unit Unit)} {rs : URes} (h : othersOrc C us = some rs) (w : World) (X : List Nat) (ad : List DSl) (vs : List Value) (he : ad.map Sl.er = us) (hA : ArgsOk w X ad vs) :
    Calls Try.prog 146 vs.toArray w fun e w' => ∃ v od rd, e = .returned v ∧ GrewH X w w' ∧ erR (od ++ rd) = rs ∧ OutsOk w' ad vs od ∧ RetOk w X w' (ad.flatMap boxBl) od rd v := by
  unfold othersOrc at h
  split at h
  case h_2 => cases h
  rename_i id ts
  split at h
  case h_2 => cases h
  rename_i rows hcall
  rw [Option.bind_eq_some_iff] at h
  obtain ⟨l, hl, h⟩ := h
  split at h
  case isFalse => cases h
  rename_i hne
  cases h
  obtain ⟨hne, hlen, hll⟩ := hne
  obtain ⟨b, tsD, rfl, hts⟩ := far_er he
  obtain ⟨hl1, hA1, hA2⟩ := hA
  obtain ⟨y, rfl⟩ : ∃ y, vs = [y] := by
    match vs, hl1 with
    | [y], _ => exact ⟨y, rfl⟩
    | [], h => cases h
    | y :: z :: r, h => simp at h
  have A := hA1 0 _ _ rfl rfl
  have hy : y = .pointer (some ⟨b.1, b.2, none⟩) := A.val []
  obtain ⟨hm1, hm2, hlies⟩ := A.mem
  obtain ⟨hk1, hk2⟩ : (Cx.mk w X).far b.1 ∧ ∀ t ∈ tsD, ∀ x ∈ bl t, (Cx.mk w X).far x := A.kind []
  have hlenD : tsD.length = 14 := by
    have := congrArg List.length hts
    simp at this
    omega
  -- the node's cell
  obtain ⟨tsD', rfl⟩ : ∃ r, tsD = .v (.int .i64 id) :: r := by
    match tsD, hts with
    | t :: r, hts =>
      simp only [erL, List.map_cons, List.cons.injEq] at hts
      cases t with
      | v x => rw [er_v] at hts; cases hts.1; exact ⟨r, rfl⟩
      | any => cases hts.1
      | s k d z q => rw [er_s] at hts; cases hts.1
  have hcell : w.cell? ⟨b.1, b.2, none⟩ = some (.int .i64 id) := by
    obtain ⟨c, e, f, q1, q2⟩ := hlies
    obtain ⟨z, z1, z2⟩ := q2 0 _ rfl
    unfold World.cell?
    simp only [q1]
    rw [show z = _ from z2.1] at z1
    simpa using z1
  -- the box of the pointer
  generalize hw1 : w.alloc (.cells #[.pointer (some ⟨b.1, b.2, none⟩)] 186) = w1
  have g1 : Grew w w1 := hw1 ▸ Grew.alloc w _
  have s1 : w1.heap.size = w.heap.size + 1 := by rw [← hw1]; simp
  have c1 : w1.cell? ⟨w.heap.size, 0, none⟩ = some (.pointer (some ⟨b.1, b.2, none⟩)) := by
    have hb : w1.heap[w.heap.size]? = some (.cells #[.pointer (some ⟨b.1, b.2, none⟩)] 186) := by rw [← hw1]; show (w.heap.push _)[w.heap.size]? = _; simp
    unfold World.cell?
    simp only [hb]
    rfl
  have b1 : w1.cell? ⟨b.1, b.2, none⟩ = some (.int .i64 id) := by rw [cell_same (g1.same b.1 hk1.1)]; exact hcell
  have fr : ∀ t ∈ ((.v (.int .i64 id) : DT) :: tsD'), Holds w1 t := fun t ht => (hm1 t ht).frame fun x hx hlt => g1.same x hlt
  have CC : Cells w1 b.1 b.2 ((.v (.int .i64 id) : DT) :: tsD') := ⟨by obtain ⟨c, e, f, q1, q2⟩ := hlies; exact ⟨c, e, f, by rw [g1.same b.1 hk1.1]; exact q1, q2⟩, fr⟩
  obtain ⟨yn, hload, hyn⟩ := CC.load node_ti (by decide) (by rw [hlenD]; rfl) (fun h => by cases h)
  simp only [TI36, Sh.agg, if_true] at hyn
  obtain ⟨cs, rfl, hcs⟩ := hyn
  -- the conf
  obtain ⟨hB, hN⟩ := AOk.views (w := w1) (X := []) (ts := (.v (.int .i64 id) : DT) :: tsD') (ys := cs.toList) (g := true) (y := .agg cs) (s := .agg (((.v (.int .i64 id) : DT) :: tsD').map (T.view .far))) hcs fr (fun t ht x hx => ⟨by rw [s1]; have := (hk2 t ht x hx).1; simp only at this; omega, by simp⟩) (by simp [ValIs]) rfl
  have hconf := hC 16 _ _ hcall w1 [] [.agg (((.v (.int .i64 id) : DT) :: tsD').map (T.view .far))] [.agg cs] (by
    simp only [List.map_cons, List.map_nil, Sl.er, List.cons.injEq, and_true, Sl.agg.injEq]
    simp only [erL, List.map_cons, List.cons.injEq] at hts
    refine ⟨rfl, ?_⟩
    have : List.map T.er (List.map (T.view .far) tsD') = List.map (T.view .far) (List.map T.er tsD') := erL_view (k := .far) tsD'
    rw [this, hts.2]) ⟨rfl, fun i a y h1 h2 => by
      cases i with
      | zero => simp at h1 h2; subst h1; subst h2; exact hB
      | succ i => simp at h1, fun x => by simp only [List.flatMap_cons, List.flatMap_nil, List.append_nil]; rw [ownBl_notHome hN]; exact Nat.zero_le _⟩
  have hconf2 : Calls Try.prog 16 #[.agg cs] w1 fun e w2 => ∃ d : Dec, e = .returned (.slice (some ⟨d.b, d.o, none⟩) l.length d.cap) ∧ Grew w1 w2 ∧ Holds w2 (.s .own d 1 (rowV (Value.int .i64) l)) ∧ OwnT w2 (.s .own d 1 (rowV (Value.int .i64) l)) ∧ w1.heap.size ≤ d.b := by
    refine hconf.mono ?_
    rintro e w2 ⟨v1, od, rd, rfl, g2, hr, hO, R⟩
    have : od = [] := OutsOk.none (fun a ha => by rw [List.mem_singleton] at ha; subst ha; exact hN) hO
    subst this
    obtain ⟨d, rowsD, rfl, r2, r3, r4, r5⟩ := R.row hr
    have hrow := intsOf_D (rows := rowsD) (by rw [r2]; exact hl)
    subst hrow
    obtain ⟨k1, k2, k3, k4, k5⟩ := own_kit (Value.int .i64) hne r4 r5
    refine ⟨d, by rw [r3, k4]; simp [rowV], g2.grew, r4, r5, ?_⟩
    have := R.new d.b (by simp [resBl, ownR, T.isOwn, bl_row _ _ k5])
    exact this.1.elim (fun h => h) fun h => by cases h
  have hdel : ∀ (w2 : World) (d : Dec), Grew w1 w2 → Holds w2 (.s .own d 1 (rowV (Value.int .i64) l)) → OwnT w2 (.s .own d 1 (rowV (Value.int .i64) l)) → w1.heap.size ≤ d.b →
      Calls Try.prog 177 #[.slice (some ⟨d.b, d.o, none⟩) l.length d.cap, .func (.func 178) #[] #[.pointer (some ⟨w.heap.size, 0, none⟩)]] w2 fun e w3 =>
        e = .returned (.slice (some ⟨d.b, d.o, none⟩) (l.filter fun x => !(x == id)).length d.cap) ∧ Holds w3 (.s .own d 1 (rowV (Value.int .i64) (l.filter fun x => !(x == id)))) ∧ OwnT w3 (.s .own d 1 (rowV (Value.int .i64) (l.filter fun x => !(x == id)))) ∧ GrewH [d.b] w2 w3 := by
    intro w2 d g2 q1 q2 q3
    obtain ⟨k1, k2, k3, k4, k5⟩ := own_kit (Value.int .i64) hne q1 q2
    have cB : ∀ W : World, W.heap[w.heap.size]? = w2.heap[w.heap.size]? → W.heap[b.1]? = w2.heap[b.1]? → ∀ x, FnGives Try.prog 178 #[.pointer (some ⟨w.heap.size, 0, none⟩)] #[.int .i64 x] (.bool (x == id)) W := by
      intro W e1 e2 x
      refine gives178 id x w.heap.size b W ?_ ?_
      · rw [cell_same (e1.trans (g2.same _ (by omega)))]; exact c1
      · rw [cell_same (e2.trans (g2.same _ (by have := hk1.1; simp only at this; omega)))]; exact b1
    have hb1 : b.1 < w.heap.size := hk1.1
    have hsz2 : w1.heap.size ≤ w2.heap.size := g2.size
    have hd := kit_DeleteFunc (Value.int .i64) (fun _ => rfl) (fun x => x == id) 178 #[.pointer (some ⟨w.heap.size, 0, none⟩)] enter178 0 Try.zeroValue3 d.b d.o d.cap l.toArray w2
      (fun W x hb => cB W (hb.block _ (by omega)) (hb.block _ (by omega)) x)
      (fun n os dk x hs => cB _ (by
          unfold Go.Proofs.sortWorld
          rw [Go.Sort.heap_grow_old _ _ (by show _ < (w2.heap.modify _ _).size; simp; omega), putRow_heap, if_neg (by omega)]) (by
          unfold Go.Proofs.sortWorld
          rw [Go.Sort.heap_grow_old _ _ (by show _ < (w2.heap.modify _ _).size; simp; omega), putRow_heap, if_neg (by omega)]) x)
      k1 (by simp; omega) (by simpa using k3)
    have hlen2 : ((l.filter fun x => !(x == id)) ++ List.replicate (l.length - (l.filter fun x => !(x == id)).length) (0 : Int)).length = l.length := by
      have := List.length_filter_le (fun x => !(x == id)) l
      simp; omega
    have hd2 : Calls Try.prog 177 #[.slice (some ⟨d.b, d.o, none⟩) l.length d.cap, .func (.func 178) #[] #[.pointer (some ⟨w.heap.size, 0, none⟩)]] w2 fun e w' => e = .returned (.slice (some ⟨d.b, d.o, none⟩) (l.filter fun x => !(x == id)).length d.cap) ∧ ∃ q, w' = Go.Sort.putRow (Value.int .i64) (Go.Sort.ahead w2 q) d.b d.o ((l.filter fun x => !(x == id)) ++ List.replicate (l.length - (l.filter fun x => !(x == id)).length) 0).toArray := by simpa using hd
    refine hd2.mono ?_
    rintro e w3 ⟨rfl, q, rfl⟩
    obtain ⟨m1, m2, m3⟩ := kit_own (Value.int .i64) (fun _ => rfl) hne q1 q2 q hlen2 (l2 := l.filter fun x => !(x == id)) (List.prefix_append _ _)
    exact ⟨rfl, m1, m2, m3⟩
  -- the walk
  rw [hy]
  clear hm1 hm2 hk2 A hA1 hA2 he hts hcs hlies CC fr hB hN hy hconf
  subst hw1
  generalize hf : (l.filter fun x => !(x == id)) = lf at hdel ⊢
  go_enter Try.func146, Try.ntmps146
  go_wp2_with (first
    | (refine wpList_value rfl (exec_load (t := 36) (x := .tmp 4) rfl rfl hload) ?_)
    | (go_at_call 16; refine hconf2.mono ?_; rintro e w2 ⟨d, rfl, g2, q1, q2, q3⟩)
    | (go_at_call 177; refine (hdel w2 d g2 q1 q2 q3).mono ?_; rintro e w3 ⟨rfl, m1, m2, m3⟩)
    | go_in)
  go_ret
  have hnil : d.nil = false := (own_kit (Value.int .i64) hne q1 q2).2.2.2.2
  have hbl : bl (.s .own d 1 (rowV (Value.int .i64) lf)) = [d.b] := bl_row _ _ hnil _
  have hd3 : d.b < w3.heap.size := Nat.lt_of_lt_of_le (own_kit (Value.int .i64) hne q1 q2).2.1 m3.size
  refine ⟨_, [], [(false, [.s .own d 1 (rowV (Value.int .i64) lf)])], rfl, ?_, ?_, rfl, ?_⟩
  · refine ⟨by rw [m3.os, g2.os]; rfl, by rw [m3.tape, g2.tape]; rfl, by rw [m3.output, g2.output]; rfl, by have := m3.size; have := g2.size; omega, fun x hx hn => ?_⟩
    rw [m3.same x (by have := g2.size; omega) (by simp; omega), g2.same x (by omega)]
    exact g1.same x hx
  · simp [erR, erL, er_s, rowV_er, etI]
  · refine ⟨.inl ⟨_, rfl, ?_⟩, ?_, ?_, ?_, ?_, ?_⟩
    · simp only [VPart, Bool.false_eq_true, if_false]
      refine ⟨_, rfl, ?_⟩
      show _ = Value.slice d.addr _ _
      rw [(own_kit (Value.int .i64) hne q1 q2).2.2.2.1]
      simp [rowV]
    · intro r hr u hu
      rw [List.nil_append, List.mem_singleton] at hr; subst hr; rw [List.mem_singleton] at hu; subst hu; rfl
    · intro r hr u hu
      rw [List.nil_append, List.mem_singleton] at hr; subst hr; rw [List.mem_singleton] at hu; subst hu; exact m1
    · intro r hr u hu _
      rw [List.nil_append, List.mem_singleton] at hr; subst hr; rw [List.mem_singleton] at hu; subst hu; exact m2
    · intro x
      simp [resBl, ownR, T.isOwn, hbl, boxBl, List.count_cons]
      split <;> omega
    · intro x hx
      have : x = d.b := by simpa [resBl, ownR, T.isOwn, hbl] using hx
      subst this
      exact ⟨.inl (by omega), hd3⟩
def orc (C : Sem1) : Sem1 := fun f us => match f with | 146 => othersOrc C us | _ => none
theorem orc_ok : ∀ C, CallsOk Try.prog C → CallsOk Try.prog (orc C) := by
  intro C hC f us rs h w X ad vs he hA
  unfold orc at h
  split at h
  · exact others_ok hC h w X ad vs he hA
  · cases h

end Go.Proofs.Ytgpllfmogdpapaa.Am
namespace Go.Proofs.Ytgpllfmogdpapaa.Am
set_option linter.unusedVariables false
set_option linter.unusedSimpArgs false
open Go Go.Proofs
set_option maxRecDepth 100000
def tab : Tab where
  ts := [(2, ⟨1, 8, [tI (0 : Int)], .int .i64⟩),
    (3, ⟨1, 8, [tI (0 : Int)], .int .i64⟩),
    (4, ⟨1, 1, [tB false], .bool⟩),
    (5, ⟨1, 1, [tY (0 : Int)], .int .u8⟩),
    (6, ⟨1, 1, [tY (0 : Int)], .int .u8⟩),
    (7, ⟨4, 24, [tI (0 : Int), tI (0 : Int), tB false, tY (0 : Int)], .struct [0, 1, 2, 3]⟩),
    (8, ⟨4, 24, [tI (0 : Int), tI (0 : Int), tB false, tY (0 : Int)], .struct [0, 1, 2, 3]⟩),
    (9, ⟨1, 16, [tS ByteArray.empty], .str⟩),
    (10, ⟨1, 16, [tS ByteArray.empty], .str⟩),
    (11, ⟨1, 16, [tS ByteArray.empty], .str⟩),
    (12, ⟨1, 8, [.v (.int .u64 0)], .int .u64⟩),
    (13, ⟨2, 24, [tS ByteArray.empty, .v (.int .u64 0)], .struct [0, 1]⟩),
    (14, ⟨2, 24, [tS ByteArray.empty, .v (.int .u64 0)], .struct [0, 1]⟩),
    (21, ⟨1, 4, [.v (.int .i32 0)], .int .i32⟩),
    (22, ⟨1, 24, [.s .own () 1 []], .slice 3⟩),
    (23, ⟨1, 24, [.s .own () 3 []], .slice 179⟩),
    (24, ⟨3, 40, [tI (0 : Int), tI (0 : Int), .s .own () 3 []], .struct [0, 1, 2]⟩),
    (25, ⟨3, 40, [tI (0 : Int), tI (0 : Int), .s .own () 3 []], .struct [0, 1, 2]⟩),
    (26, ⟨1, 24, [.s .own () 4 []], .slice 167⟩),
    (27, ⟨14, 176, [tI (0 : Int), tI (0 : Int), tI (0 : Int), tI (0 : Int), tI (0 : Int), .s .own () 1 [], tI (0 : Int), tI (0 : Int), .s .own () 3 [], tI (0 : Int), tI (0 : Int), tI (0 : Int), .s .own () 1 [], .s .own () 4 []], .struct [0, 1, 2, 3, 4, 5, 6, 9, 10, 11, 12, 13]⟩),
    (28, ⟨14, 176, [tI (0 : Int), tI (0 : Int), tI (0 : Int), tI (0 : Int), tI (0 : Int), .s .own () 1 [], tI (0 : Int), tI (0 : Int), .s .own () 3 [], tI (0 : Int), tI (0 : Int), tI (0 : Int), .s .own () 1 [], .s .own () 4 []], .struct [0, 1, 2, 3, 4, 5, 6, 9, 10, 11, 12, 13]⟩),
    (31, ⟨1, 24, [.s .own () 3 []], .slice 83⟩),
    (32, ⟨3, 40, [tI (0 : Int), tI (0 : Int), .s .own () 3 []], .struct [0, 1, 2]⟩),
    (33, ⟨3, 40, [tI (0 : Int), tI (0 : Int), .s .own () 3 []], .struct [0, 1, 2]⟩),
    (34, ⟨1, 24, [.s .own () 4 []], .slice 117⟩),
    (35, ⟨14, 176, [tI (0 : Int), tI (0 : Int), tI (0 : Int), tI (0 : Int), tI (0 : Int), .s .own () 1 [], tI (0 : Int), tI (0 : Int), .s .own () 3 [], tI (0 : Int), tI (0 : Int), tI (0 : Int), .s .own () 1 [], .s .own () 4 []], .struct [0, 1, 2, 3, 4, 5, 6, 9, 10, 11, 12, 13]⟩),
    (36, ⟨14, 176, [tI (0 : Int), tI (0 : Int), tI (0 : Int), tI (0 : Int), tI (0 : Int), .s .own () 1 [], tI (0 : Int), tI (0 : Int), .s .own () 3 [], tI (0 : Int), tI (0 : Int), tI (0 : Int), .s .own () 1 [], .s .own () 4 []], .struct [0, 1, 2, 3, 4, 5, 6, 9, 10, 11, 12, 13]⟩),
    (50, ⟨5, 120, [.s .own () 1 [], .s .own () 1 [], .s .own () 1 [], .s .own () 1 [], .s .own () 1 []], .struct [0, 1, 2, 3, 4]⟩),
    (51, ⟨5, 120, [.s .own () 1 [], .s .own () 1 [], .s .own () 1 [], .s .own () 1 [], .s .own () 1 []], .struct [0, 1, 2, 3, 4]⟩),
    (53, ⟨1, 24, [.s .own () 2 []], .slice 102⟩),
    (55, ⟨5, 120, [.s .own () 1 [], .s .own () 1 [], .s .own () 1 [], .s .own () 1 [], .s .own () 1 []], .struct [0, 1, 2, 3, 4]⟩),
    (62, ⟨12, 136, [tI (0 : Int), tI (0 : Int), tI (0 : Int), tI (0 : Int), tI (0 : Int), tI (0 : Int), tI (0 : Int), tB false, .s .own () 3 [], .s .own () 1 [], tS ByteArray.empty, tB false], .struct [0, 1, 2, 3, 4, 5, 6, 7, 8, 9, 10, 11]⟩),
    (63, ⟨12, 136, [tI (0 : Int), tI (0 : Int), tI (0 : Int), tI (0 : Int), tI (0 : Int), tI (0 : Int), tI (0 : Int), tB false, .s .own () 3 [], .s .own () 1 [], tS ByteArray.empty, tB false], .struct [0, 1, 2, 3, 4, 5, 6, 7, 8, 9, 10, 11]⟩),
    (67, ⟨12, 136, [tI (0 : Int), tI (0 : Int), tI (0 : Int), tI (0 : Int), tI (0 : Int), tI (0 : Int), tI (0 : Int), tB false, .s .own () 3 [], .s .own () 1 [], tS ByteArray.empty, tB false], .struct [0, 1, 2, 3, 4, 5, 6, 7, 8, 9, 10, 11]⟩),
    (68, ⟨12, 136, [tI (0 : Int), tI (0 : Int), tI (0 : Int), tI (0 : Int), tI (0 : Int), tI (0 : Int), tI (0 : Int), tB false, .s .own () 3 [], .s .own () 1 [], tS ByteArray.empty, tB false], .struct [0, 1, 2, 3, 4, 5, 6, 7, 8, 9, 10, 11]⟩),
    (72, ⟨1, 24, [.s .own () 1 []], .slice 5⟩),
    (75, ⟨1, 24, [.s .own () 12 []], .slice 68⟩),
    (82, ⟨3, 32, [tI (0 : Int), tI (0 : Int), tS ByteArray.empty], .struct [0, 1, 2]⟩),
    (83, ⟨3, 32, [tI (0 : Int), tI (0 : Int), tS ByteArray.empty], .struct [0, 1, 2]⟩),
    (101, ⟨2, 16, [tI (0 : Int), tI (0 : Int)], .struct [0, 1]⟩),
    (102, ⟨2, 16, [tI (0 : Int), tI (0 : Int)], .struct [0, 1]⟩),
    (116, ⟨4, 32, [tI (0 : Int), tI (0 : Int), tI (0 : Int), tI (0 : Int)], .struct [0, 1, 2, 3]⟩),
    (117, ⟨4, 32, [tI (0 : Int), tI (0 : Int), tI (0 : Int), tI (0 : Int)], .struct [0, 1, 2, 3]⟩),
    (161, ⟨1, 24, [.s .own () 1 []], .slice 9⟩),
    (164, ⟨1, 24, [.s .own () 1 []], .slice 4⟩),
    (167, ⟨4, 32, [tI (0 : Int), tI (0 : Int), tI (0 : Int), tI (0 : Int)], .struct [0, 1, 2, 3]⟩),
    (179, ⟨3, 32, [tI (0 : Int), tI (0 : Int), tS ByteArray.empty], .struct [0, 1, 2]⟩),
    (183, ⟨3, 40, [.s .own () 1 [], tI (0 : Int), tI (0 : Int)], .struct [0, 1, 2]⟩),
    (184, ⟨3, 40, [.s .own () 1 [], tI (0 : Int), tI (0 : Int)], .struct [0, 1, 2]⟩),
    (185, ⟨1, 8, [.v (.int .u64 0)], .int .u64⟩),
    (197, ⟨8, 80, [tI (0 : Int), tI (0 : Int), tI (0 : Int), tS ByteArray.empty, tS ByteArray.empty, tI (0 : Int), tI (0 : Int), tB false], .struct [0, 1, 2, 3, 4, 5, 6, 7]⟩),
    (198, ⟨8, 80, [tI (0 : Int), tI (0 : Int), tI (0 : Int), tS ByteArray.empty, tS ByteArray.empty, tI (0 : Int), tI (0 : Int), tB false], .struct [0, 1, 2, 3, 4, 5, 6, 7]⟩),
    (207, ⟨5, 40, [tI (0 : Int), tI (0 : Int), tI (0 : Int), tI (0 : Int), tI (0 : Int)], .struct [0, 1, 2, 3, 4]⟩),
    (208, ⟨5, 40, [tI (0 : Int), tI (0 : Int), tI (0 : Int), tI (0 : Int), tI (0 : Int)], .struct [0, 1, 2, 3, 4]⟩),
    (216, ⟨1, 24, [.s .own () 3 []], .slice 223⟩),
    (217, ⟨1, 24, [.s .own () 9 []], .slice 240⟩),
    (218, ⟨1, 24, [.s .own () 5 []], .slice 244⟩),
    (219, ⟨5, 88, [.s .own () 3 [], .s .own () 9 [], .s .own () 5 [], tI (0 : Int), tI (0 : Int)], .struct [0, 1, 2, 3, 4]⟩),
    (220, ⟨5, 88, [.s .own () 3 [], .s .own () 9 [], .s .own () 5 [], tI (0 : Int), tI (0 : Int)], .struct [0, 1, 2, 3, 4]⟩),
    (222, ⟨3, 32, [tI (0 : Int), tI (0 : Int), tS ByteArray.empty], .struct [0, 1, 2]⟩),
    (223, ⟨3, 32, [tI (0 : Int), tI (0 : Int), tS ByteArray.empty], .struct [0, 1, 2]⟩),
    (233, ⟨1, 24, [.s .own () 5 []], .slice 259⟩),
    (234, ⟨6, 80, [tS ByteArray.empty, tS ByteArray.empty, tI (0 : Int), tI (0 : Int), tB false, .s .own () 5 []], .struct [0, 1, 2, 3, 4, 5]⟩),
    (235, ⟨6, 80, [tS ByteArray.empty, tS ByteArray.empty, tI (0 : Int), tI (0 : Int), tB false, .s .own () 5 []], .struct [0, 1, 2, 3, 4, 5]⟩),
    (239, ⟨9, 104, [tS ByteArray.empty, tS ByteArray.empty, tI (0 : Int), tI (0 : Int), tB false, .s .own () 5 [], tB false, tI (0 : Int), tI (0 : Int)], .struct [0, 6, 7, 8]⟩),
    (240, ⟨9, 104, [tS ByteArray.empty, tS ByteArray.empty, tI (0 : Int), tI (0 : Int), tB false, .s .own () 5 [], tB false, tI (0 : Int), tI (0 : Int)], .struct [0, 6, 7, 8]⟩),
    (242, ⟨1, 24, [.s .own () 4 []], .slice 256⟩),
    (243, ⟨5, 64, [tS ByteArray.empty, tI (0 : Int), tI (0 : Int), tI (0 : Int), .s .own () 4 []], .struct [0, 1, 3, 4]⟩),
    (244, ⟨5, 64, [tS ByteArray.empty, tI (0 : Int), tI (0 : Int), tI (0 : Int), .s .own () 4 []], .struct [0, 1, 3, 4]⟩),
    (255, ⟨4, 32, [tI (0 : Int), tI (0 : Int), tI (0 : Int), tI (0 : Int)], .struct [0, 1, 2, 3]⟩),
    (256, ⟨4, 32, [tI (0 : Int), tI (0 : Int), tI (0 : Int), tI (0 : Int)], .struct [0, 1, 2, 3]⟩),
    (258, ⟨5, 72, [tS ByteArray.empty, tS ByteArray.empty, tI (0 : Int), tB false, .s .own () 1 []], .struct [0, 1, 2, 3, 4]⟩),
    (259, ⟨5, 72, [tS ByteArray.empty, tS ByteArray.empty, tI (0 : Int), tB false, .s .own () 1 []], .struct [0, 1, 2, 3, 4]⟩),
    (272, ⟨1, 4, [.v (.int .u32 0)], .int .u32⟩),
    (273, ⟨1, 1, [tY (0 : Int)], .int .u8⟩),
    (274, ⟨1, 1, [tY (0 : Int)], .int .u8⟩),
    (276, ⟨1, 4, [.v (.int .i32 0)], .int .i32⟩),
    (277, ⟨1, 4, [.v (.int .i32 0)], .int .i32⟩)]
  eqs := [(82, [(0, 3), (1, 3), (2, 9)]),
    (83, [(0, 3), (1, 3), (2, 9)]),
    (101, [(0, 3), (1, 3)]),
    (102, [(0, 3), (1, 3)]),
    (116, [(0, 3), (1, 3), (2, 3), (3, 3)]),
    (117, [(0, 3), (1, 3), (2, 3), (3, 3)]),
    (167, [(0, 3), (1, 3), (2, 3), (3, 3)]),
    (179, [(0, 3), (1, 3), (2, 9)]),
    (197, [(0, 3), (1, 3), (2, 3), (3, 9), (4, 9), (5, 3), (6, 3), (7, 4)]),
    (198, [(0, 3), (1, 3), (2, 3), (3, 9), (4, 9), (5, 3), (6, 3), (7, 4)]),
    (207, [(0, 3), (1, 3), (2, 3), (3, 3), (4, 3)]),
    (208, [(0, 3), (1, 3), (2, 3), (3, 3), (4, 3)]),
    (222, [(0, 3), (1, 3), (2, 9)]),
    (223, [(0, 3), (1, 3), (2, 9)]),
    (255, [(0, 3), (1, 3), (2, 3), (3, 3)]),
    (256, [(0, 3), (1, 3), (2, 3), (3, 3)])]
  pls := [(7, [(0, 1), (1, 1), (2, 1), (3, 1)]),
    (8, [(0, 1), (1, 1), (2, 1), (3, 1)]),
    (13, [(0, 1), (1, 1)]),
    (14, [(0, 1), (1, 1)]),
    (24, [(0, 1), (1, 1), (2, 1)]),
    (25, [(0, 1), (1, 1), (2, 1)]),
    (27, [(0, 1), (1, 1), (2, 1), (3, 1), (4, 1), (5, 1), (6, 3), (9, 1), (10, 1), (11, 1), (12, 1), (13, 1)]),
    (28, [(0, 1), (1, 1), (2, 1), (3, 1), (4, 1), (5, 1), (6, 3), (9, 1), (10, 1), (11, 1), (12, 1), (13, 1)]),
    (32, [(0, 1), (1, 1), (2, 1)]),
    (33, [(0, 1), (1, 1), (2, 1)]),
    (35, [(0, 1), (1, 1), (2, 1), (3, 1), (4, 1), (5, 1), (6, 3), (9, 1), (10, 1), (11, 1), (12, 1), (13, 1)]),
    (36, [(0, 1), (1, 1), (2, 1), (3, 1), (4, 1), (5, 1), (6, 3), (9, 1), (10, 1), (11, 1), (12, 1), (13, 1)]),
    (50, [(0, 1), (1, 1), (2, 1), (3, 1), (4, 1)]),
    (51, [(0, 1), (1, 1), (2, 1), (3, 1), (4, 1)]),
    (55, [(0, 1), (1, 1), (2, 1), (3, 1), (4, 1)]),
    (62, [(0, 1), (1, 1), (2, 1), (3, 1), (4, 1), (5, 1), (6, 1), (7, 1), (8, 1), (9, 1), (10, 1), (11, 1)]),
    (63, [(0, 1), (1, 1), (2, 1), (3, 1), (4, 1), (5, 1), (6, 1), (7, 1), (8, 1), (9, 1), (10, 1), (11, 1)]),
    (67, [(0, 1), (1, 1), (2, 1), (3, 1), (4, 1), (5, 1), (6, 1), (7, 1), (8, 1), (9, 1), (10, 1), (11, 1)]),
    (68, [(0, 1), (1, 1), (2, 1), (3, 1), (4, 1), (5, 1), (6, 1), (7, 1), (8, 1), (9, 1), (10, 1), (11, 1)]),
    (82, [(0, 1), (1, 1), (2, 1)]),
    (83, [(0, 1), (1, 1), (2, 1)]),
    (101, [(0, 1), (1, 1)]),
    (102, [(0, 1), (1, 1)]),
    (116, [(0, 1), (1, 1), (2, 1), (3, 1)]),
    (117, [(0, 1), (1, 1), (2, 1), (3, 1)]),
    (167, [(0, 1), (1, 1), (2, 1), (3, 1)]),
    (179, [(0, 1), (1, 1), (2, 1)]),
    (183, [(0, 1), (1, 1), (2, 1)]),
    (184, [(0, 1), (1, 1), (2, 1)]),
    (197, [(0, 1), (1, 1), (2, 1), (3, 1), (4, 1), (5, 1), (6, 1), (7, 1)]),
    (198, [(0, 1), (1, 1), (2, 1), (3, 1), (4, 1), (5, 1), (6, 1), (7, 1)]),
    (207, [(0, 1), (1, 1), (2, 1), (3, 1), (4, 1)]),
    (208, [(0, 1), (1, 1), (2, 1), (3, 1), (4, 1)]),
    (219, [(0, 1), (1, 1), (2, 1), (3, 1), (4, 1)]),
    (220, [(0, 1), (1, 1), (2, 1), (3, 1), (4, 1)]),
    (222, [(0, 1), (1, 1), (2, 1)]),
    (223, [(0, 1), (1, 1), (2, 1)]),
    (234, [(0, 1), (1, 1), (2, 1), (3, 1), (4, 1), (5, 1)]),
    (235, [(0, 1), (1, 1), (2, 1), (3, 1), (4, 1), (5, 1)]),
    (239, [(0, 6), (6, 1), (7, 1), (8, 1)]),
    (240, [(0, 6), (6, 1), (7, 1), (8, 1)]),
    (243, [(0, 1), (1, 2), (3, 1), (4, 1)]),
    (244, [(0, 1), (1, 2), (3, 1), (4, 1)]),
    (255, [(0, 1), (1, 1), (2, 1), (3, 1)]),
    (256, [(0, 1), (1, 1), (2, 1), (3, 1)]),
    (258, [(0, 1), (1, 1), (2, 1), (3, 1), (4, 1)]),
    (259, [(0, 1), (1, 1), (2, 1), (3, 1), (4, 1)])]
  io := [(19, 0), (20, 0), (75, 0), (76, 0), (144, 0)]
  pw := [(120, [3]), (146, [14])]
noncomputable def fnTab : List (Nat × Func) := [(4, Try.f4), (5, Try.f5), (6, Try.f6), (13, Try.f13), (14, Try.f14), (15, Try.f15), (16, Try.f16), (17, Try.f17), (18, Try.f18), (19, Try.f19), (20, Try.f20), (21, Try.f21), (22, Try.f22), (23, Try.f23), (24, Try.f24), (25, Try.f25), (26, Try.f26), (27, Try.f27), (28, Try.f28), (29, Try.f29), (50, Try.f50), (55, Try.f55), (57, Try.f57), (58, Try.f58), (59, Try.f59), (60, Try.f60), (67, Try.f67), (68, Try.f68), (69, Try.f69), (70, Try.f70), (71, Try.f71), (72, Try.f72), (73, Try.f73), (74, Try.f74), (75, Try.f75), (76, Try.f76), (77, Try.f77), (78, Try.f78), (79, Try.f79), (80, Try.f80), (81, Try.f81), (82, Try.f82), (83, Try.f83), (84, Try.f84), (85, Try.f85), (86, Try.f86), (87, Try.f87), (88, Try.f88), (89, Try.f89), (90, Try.f90), (91, Try.f91), (92, Try.f92), (93, Try.f93), (94, Try.f94), (99, Try.f99), (105, Try.f105), (114, Try.f114), (119, Try.f119), (120, Try.f120), (125, Try.f125), (131, Try.f131), (132, Try.f132), (133, Try.f133), (136, Try.f136), (137, Try.f137), (141, Try.f141), (142, Try.f142), (143, Try.f143), (144, Try.f144), (145, Try.f145), (146, Try.f146), (147, Try.f147), (148, Try.f148), (153, Try.f153), (154, Try.f154), (157, Try.f157), (167, Try.f167), (176, Try.f176), (177, Try.f177), (178, Try.f178), (195, Try.f195)]
def hints : FuncId → Hint
  | 4 => { take := fun r i => match r, i with | 6, 3 => true | _, _ => false, draw := fun i => match i with | 10 => some (3, [[], [], [1], [0, 1, 2], [0, 1, 2, 3]]) | _ => none }
  | 5 => { take := fun r i => match r, i with | 3, 4 => true | 3, 8 => true | 4, 2 => true | 5, 3 => true | 5, 7 => true | 11, 0 => true | 22, 4 => true | 22, 8 => true | 23, 0 => true | 23, 1 => true | 26, 0 => true | _, _ => false }
  | 6 => { take := fun r i => match r, i with | 5, 4 => true | 5, 8 => true | 6, 3 => true | 7, 3 => true | 7, 7 => true | 13, 0 => true | 24, 4 => true | 24, 8 => true | 25, 0 => true | 25, 1 => true | 28, 0 => true | _, _ => false, draw := fun i => match i with | 10 => some (3, [[], [], [1], [0, 1, 2], [0, 1, 2, 3]]) | _ => none }
  | 14 => { take := fun r i => match r, i with | 1, 2 => true | _, _ => false }
  | 15 => { take := fun r i => match r, i with | 7, 4 => true | 8, 4 => true | 12, 4 => true | 13, 4 => true | 14, 0 => true | 14, 1 => true | _, _ => false }
  | 16 => { take := fun r i => match r, i with | 1, 2 => true | _, _ => false }
  | 17 => { draw := fun i => match i with | 6 => some (8, [[], [], [0, 1], [0, 1, 2], [], [], [4, 5], [4, 5, 6], [0, 1, 2, 3, 4, 5, 6, 7]]) | _ => none, head := fun i => match i with | 4 => some [0, 1, 5] | _ => none, tail := fun i e => match i, e with | 4, .exit 0 => some [] | 4, .ret => some [4] | _, _ => none }
  | 20 => { head := fun i => match i with | 2 => some [0, 1, 5] | _ => none, tail := fun i e => match i, e with | 2, .exit 0 => some [0, 1] | 2, .ret => some [0, 4] | _, _ => none }
  | 21 => { head := fun i => match i with | 2 => some [0, 1, 5] | _ => none, tail := fun i e => match i, e with | 2, .exit 0 => some [1] | 2, .ret => some [4] | _, _ => none }
  | 22 => { take := fun r i => match r, i with | 6, 1 => true | 8, 5 => true | _, _ => false, draw := fun i => match i with | 8 => some (4, [[], [0], [], [2], [0, 1, 2, 3], [0, 1, 2, 3, 4]]) | 15 => some (21, [[], [0], [], [], [2, 3], [2, 3, 4], [0, 1, 2, 3, 4, 5], [0, 1, 2, 3, 4, 5, 6], [0, 1, 2, 3, 4, 5, 6, 7], [0, 1, 2, 3, 4, 5, 6, 7, 8], [0, 1, 2, 3, 4, 5, 6, 7], [0, 1, 2, 3, 4, 5, 6, 7, 10], [0, 1, 2, 3, 4, 5, 6, 7, 8, 9, 10, 11], [0, 1, 2, 3, 4, 5, 6, 7, 8, 9, 10, 11, 12], [0, 1, 2, 3, 4, 5, 6, 7, 8, 9, 10, 11, 12, 13], [0, 1, 2, 3, 4, 5, 6, 7, 8, 9, 10, 11, 12, 13, 14], [0, 1, 2, 3, 4, 5, 6, 7, 8, 9, 10, 11, 12, 13, 14, 15], [0, 1, 2, 3, 4, 5, 6, 7, 8, 9, 10, 11, 12, 13, 14, 15, 16], [0, 1, 2, 3, 4, 5, 6, 7, 8, 9, 10, 11, 12, 13, 14, 15], [0, 1, 2, 3, 4, 5, 6, 7, 8, 9, 10, 11, 12, 13, 14, 15, 18], [0, 1, 2, 3, 4, 5, 6, 7, 8, 9, 10, 11, 12, 13, 14, 15, 18, 19], [0, 1, 2, 3, 4, 5, 6, 7, 8, 9, 10, 11, 12, 13, 14, 15, 16, 17, 18, 19, 20], [0, 1, 2, 3, 4, 5, 6, 7, 8, 9, 10, 11, 12, 13, 14, 15, 16, 17, 18, 19, 20, 21], [0, 1, 2, 3, 4, 5, 6, 7, 8, 9, 10, 11, 12, 13, 14, 15, 16, 17, 18, 19, 20, 21, 22], [0, 1, 2, 3, 4, 5, 6, 7, 8, 9, 10, 11, 12, 13, 14, 15, 16, 17, 18, 19, 20, 21, 22, 23], [0, 1, 2, 3, 4, 5, 6, 7, 8, 9, 10, 11, 12, 13, 14, 15, 16, 17, 18, 19, 20, 21, 22, 23, 24], [0, 1, 2, 3, 4, 5, 6, 7, 8, 9, 10, 11, 12, 13, 14, 15, 16, 17, 18, 19, 20, 21, 22, 23, 24, 25], [0, 1, 2, 3, 4, 5, 6, 7, 8, 9, 10, 11, 12, 13, 14, 15, 16, 17, 18, 19, 20, 21, 22, 23, 24, 25, 26], [0, 1, 2, 3, 4, 5, 6, 7, 8, 9, 10, 11, 12, 13, 14, 15, 16, 17, 18, 19, 20, 21, 22, 23, 24, 25, 26, 27], [0, 1, 2, 3, 4, 5, 6, 7, 8, 9, 10, 11, 12, 13, 14, 15, 16, 17, 18, 19, 20, 21, 22, 23, 24, 25, 26, 27, 28]]) | _ => none, head := fun i => match i with | 12 => some [1, 3, 5, 6] | _ => none, tail := fun i e => match i, e with | 12, .exit 0 => some [] | 12, .ret => some [2] | _, _ => none }
  | 24 => { take := fun r i => match r, i with | 1, 4 => true | 1, 6 => true | 3, 1 => true | 4, 0 => true | 4, 1 => true | _, _ => false }
  | 25 => { take := fun r i => match r, i with | 1, 3 => true | 6, 0 => true | 6, 1 => true | _, _ => false, head := fun i => match i with | 3 => some [0, 3, 4] | _ => none, tail := fun i e => match i, e with | 3, .exit 0 => some [3] | 3, .ret => some [2] | _, _ => none }
  | 26 => { take := fun r i => match r, i with | 1, 3 => true | 1, 5 => true | 3, 1 => true | 4, 0 => true | 4, 1 => true | _, _ => false }
  | 28 => { take := fun r i => match r, i with | 2, 1 => true | 3, 3 => true | 4, 4 => true | 5, 9 => true | 6, 0 => true | 6, 1 => true | _, _ => false, draw := fun i => match i with | 5 => some (7, [[], [0], [], [], [3], [], [3, 4, 5], [0, 1, 2, 3, 4, 5, 6], [0, 1, 2, 3, 4, 5, 6, 7], [0, 1, 2, 3, 4, 5, 6, 7, 8]]) | _ => none }
  | 29 => { take := fun r i => match r, i with | 2, 1 => true | 3, 3 => true | 4, 4 => true | 5, 9 => true | 6, 0 => true | 6, 1 => true | _, _ => false, draw := fun i => match i with | 5 => some (7, [[], [0], [], [], [3], [], [3, 4, 5], [0, 1, 2, 3, 4, 5, 6], [0, 1, 2, 3, 4, 5, 6, 7], [0, 1, 2, 3, 4, 5, 6, 7, 8]]) | _ => none }
  | 50 => { take := fun r i => match r, i with | 6, 3 => true | 6, 6 => true | 8, 0 => true | 8, 1 => true | 9, 3 => true | _, _ => false, head := fun i => match i with | 2 => some [1, 2, 5] | _ => none, tail := fun i e => match i, e with | 2, .exit 0 => some [2] | 2, .ret => some [4] | _, _ => none }
  | 55 => { head := fun i => match i with | 5 => some [1, 3, 4] | _ => none, tail := fun i e => match i, e with | 5, .exit 0 => some [] | 5, .ret => some [2] | _, _ => none }
  | 58 => { take := fun r i => match r, i with | 1, 4 => true | 3, 9 => true | 4, 0 => true | 4, 1 => true | _, _ => false, draw := fun i => match i with | 2 => some (14, [[], [0], [0, 1], [0, 1, 2], [0, 1, 2], [0, 1, 2, 4], [0, 1, 2], [0, 1, 2, 3, 4, 5, 6], [0, 1, 2, 3, 4, 5, 6, 7], [0, 1, 2, 3, 4, 5, 6, 7, 8], [0, 1, 2, 3, 4, 5, 6, 7, 8, 9], [0, 1, 2, 3, 4, 5, 6, 7, 8, 9], [0, 1, 2, 3, 4, 5, 6, 7, 8, 9, 10, 11], [0, 1, 2, 3, 4, 5, 6, 7, 8, 9], [0, 1, 2, 3, 4, 5, 6, 7, 8, 9, 10, 11, 12, 13], [0, 1, 2, 3, 4, 5, 6, 7, 8, 9, 10, 11, 12, 13, 14]]) | _ => none }
  | 59 => { draw := fun i => match i with | 2 => some (5, [[], [0], [], [2], [0, 1], [0, 1, 2, 3, 4]]) | 3 => some (11, [[], [], [1], [], [3], [3, 4], [3, 4, 5], [1, 2, 3, 4, 5, 6], [1, 2, 3, 4, 5, 6, 7], [1, 2, 3, 4, 5, 6, 7, 8], [0], [0, 1, 2, 3, 4, 5, 6, 7, 8, 9, 10]]) | _ => none }
  | 60 => { head := fun i => match i with | 5 => some [3, 34, 35, 36] | _ => none, tail := fun i e => match i, e with | 5, .exit 0 => some [] | 5, .ret => some [2] | _, _ => none }
  | 70 => { take := fun r i => match r, i with | 1, 4 => true | 6, 8 => true | 6, 11 => true | 8, 0 => true | 8, 1 => true | 9, 0 => true | 9, 1 => true | _, _ => false, head := fun i => match i with | 3 => some [1, 2, 5, 6] | _ => none, tail := fun i e => match i, e with | 3, .exit 0 => some [5] | 3, .ret => some [4] | _, _ => none }
  | 71 => { take := fun r i => match r, i with | 4, 4 => true | 5, 0 => true | 5, 1 => true | _, _ => false }
  | 72 => { take := fun r i => match r, i with | 1, 3 => true | 6, 0 => true | 6, 1 => true | _, _ => false, head := fun i => match i with | 3 => some [0, 3, 4] | _ => none, tail := fun i e => match i, e with | 3, .exit 0 => some [3] | 3, .ret => some [2] | _, _ => none }
  | 74 => { draw := fun i => match i with | 6 => some (8, [[], [], [0, 1], [0, 1, 2], [], [], [4, 5], [4, 5, 6], [0, 1, 2, 3, 4, 5, 6, 7], [0, 1, 2, 3, 4, 5, 6, 7, 8]]) | _ => none, head := fun i => match i with | 4 => some [0, 1, 5] | _ => none, tail := fun i e => match i, e with | 4, .exit 0 => some [] | 4, .ret => some [4] | _, _ => none }
  | 76 => { head := fun i => match i with | 2 => some [0, 1, 5] | _ => none, tail := fun i e => match i, e with | 2, .exit 0 => some [0, 1] | 2, .ret => some [0, 4] | _, _ => none }
  | 79 => { draw := fun i => match i with | 3 => some (5, [[], [0], [], [2], [0, 1], [0, 1, 2, 3, 4]]) | 4 => some (12, [[], [0], [], [0, 1, 2], [], [4], [], [6], [4, 5, 6, 7], [4, 5, 6, 7, 8], [4, 5, 6, 7, 8, 9], [0, 1, 2, 3], [0, 1, 2, 3, 4, 5, 6, 7, 8, 9, 10, 11]]) | _ => none }
  | 80 => { draw := fun i => match i with | 4 => some (21, [[], [], [0, 1], [0, 1, 2], [], [], [0, 1, 2, 3, 4, 5], [0, 1, 2, 3, 4, 5, 6], [0, 1, 2, 3, 4, 5, 6, 7], [0, 1, 2, 3, 4, 5, 6, 7, 8], [0, 1, 2, 3, 4, 5, 6, 7, 8, 9], [0, 1, 2, 3, 4, 5, 6, 7, 8, 9, 10], [0, 1, 2, 3, 4, 5, 6, 7, 8, 9, 10, 11], [0, 1, 2, 3, 4, 5, 6, 7, 8, 9, 10, 11], [0, 1, 2, 3, 4, 5, 6, 7, 8, 9, 10, 11, 13], [0, 1, 2, 3, 4, 5, 6, 7, 8, 9, 10, 11, 12, 13, 14], [0, 1, 2, 3, 4, 5, 6, 7, 8, 9, 10, 11, 12, 13, 14, 15], [0, 1, 2, 3, 4, 5, 6, 7, 8, 9, 10, 11], [0, 1, 2, 3, 4, 5, 6, 7, 8, 9, 10, 11], [0, 1, 2, 3, 4, 5, 6, 7, 8, 9, 10, 11, 17, 18], [0, 1, 2, 3, 4, 5, 6, 7, 8, 9, 10, 11, 17, 18, 19], [0, 1, 2, 3, 4, 5, 6, 7, 8, 9, 10, 11, 12, 13, 14, 15, 16, 17, 18, 19, 20], [0, 1, 2, 3, 4, 5, 6, 7, 8, 9, 10, 11, 12, 13, 14, 15, 16, 17, 18, 19, 20, 21], [0, 1, 2, 3, 4, 5, 6, 7, 8, 9, 10, 11, 12, 13, 14, 15, 16, 17, 18, 19, 20, 21, 22]]) | _ => none, head := fun i => match i with | 2 => some [0, 1, 2, 7] | _ => none, tail := fun i e => match i, e with | 2, .exit 0 => some [] | 2, .ret => some [6] | _, _ => none }
  | 81 => { take := fun r i => match r, i with | 1, 1 => true | 6, 0 => true | 6, 7 => true | 7, 0 => true | 7, 1 => true | _, _ => false, head := fun i => match i with | 3 => some [0, 1, 5, 6] | _ => none, tail := fun i e => match i, e with | 3, .exit 0 => some [5] | 3, .ret => some [4] | _, _ => none }
  | 86 => { head := fun i => match i with | 2 => some [0, 5, 6, 7] | _ => none, tail := fun i e => match i, e with | 2, .exit 0 => some [] | 2, .ret => some [2] | _, _ => none }
  | 87 => { take := fun r i => match r, i with | 10, 0 => true | 10, 5 => true | 12, 0 => true | _, _ => false, head := fun i => match i with | 6 => some [1, 3, 4, 17, 18, 19] | _ => none, tail := fun i e => match i, e with | 6, .exit 0 => some [1, 4] | 6, .ret => some [2] | _, _ => none }
  | 88 => { take := fun r i => match r, i with | 3, 3 => true | _, _ => false }
  | 90 => { head := fun i => match i with | 2 => some [0, 1, 5] | _ => none, tail := fun i e => match i, e with | 2, .exit 0 => some [1] | 2, .ret => some [4] | _, _ => none }
  | 91 => { take := fun r i => match r, i with | 1, 5 => true | 2, 7 => true | 3, 5 => true | 4, 5 => true | 5, 0 => true | 5, 1 => true | _, _ => false }
  | 92 => { take := fun r i => match r, i with | 1, 4 => true | 3, 10 => true | 4, 0 => true | 4, 1 => true | _, _ => false, draw := fun i => match i with | 2 => some (15, [[], [0], [0, 1], [0, 1, 2], [0, 1, 2], [0, 1, 2, 4], [0, 1, 2], [0, 1, 2, 6], [0, 1, 2, 3, 4, 5, 6, 7], [0, 1, 2, 3, 4, 5, 6, 7, 8], [0, 1, 2, 3, 4, 5, 6, 7, 8, 9], [0, 1, 2, 3, 4, 5, 6, 7, 8, 9, 10], [0, 1, 2, 3, 4, 5, 6, 7, 8, 9, 10], [0, 1, 2, 3, 4, 5, 6, 7, 8, 9, 10, 11, 12], [0, 1, 2, 3, 4, 5, 6, 7, 8, 9, 10], [0, 1, 2, 3, 4, 5, 6, 7, 8, 9, 10, 11, 12, 13, 14], [0, 1, 2, 3, 4, 5, 6, 7, 8, 9, 10, 11, 12, 13, 14, 15]]) | _ => none }
  | 94 => { take := fun r i => match r, i with | 1, 4 => true | 2, 4 => true | 3, 4 => true | 4, 4 => true | 5, 0 => true | 5, 1 => true | _, _ => false }
  | 99 => { head := fun i => match i with | 5 => some [0, 1, 5] | _ => none, tail := fun i e => match i, e with | 5, .exit 0 => some [1] | 5, .ret => some [4] | _, _ => none }
  | 105 => { take := fun r i => match r, i with | 1, 3 => true | 6, 0 => true | 6, 1 => true | _, _ => false, head := fun i => match i with | 3 => some [0, 3, 4] | _ => none, tail := fun i e => match i, e with | 3, .exit 0 => some [3] | 3, .ret => some [2] | _, _ => none }
  | 114 => { draw := fun i => match i with | 6 => some (8, [[], [], [0, 1], [0, 1, 2], [], [], [4, 5], [4, 5, 6], [0, 1, 2, 3, 4, 5, 6, 7], [0, 1, 2, 3, 4, 5, 6, 7, 8]]) | _ => none, head := fun i => match i with | 4 => some [0, 1, 5] | _ => none, tail := fun i e => match i, e with | 4, .exit 0 => some [] | 4, .ret => some [4] | _, _ => none }
  | 119 => { take := fun r i => match r, i with | 7, 3 => true | 7, 6 => true | _, _ => false }
  | 120 => { draw := fun i => match i with | 1 => some (9, [[], [0], [0, 1], [0, 1, 2], [], [4], [4, 5], [4, 5, 6], [4, 5, 6, 7], [0, 1, 2, 3, 4, 5, 6, 7, 8], [0, 1, 2, 3, 4, 5, 6, 7, 8, 9]]) | _ => none }
  | 125 => { take := fun r i => match r, i with | 3, 2 => true | 6, 0 => true | 6, 1 => true | _, _ => false }
  | 131 => { take := fun r i => match r, i with | 1, 4 => true | 2, 0 => true | 2, 1 => true | _, _ => false }
  | 133 => { take := fun r i => match r, i with | 7, 3 => true | 7, 6 => true | _, _ => false }
  | 136 => { take := fun r i => match r, i with | 3, 3 => true | _, _ => false }
  | 141 => { take := fun r i => match r, i with | 1, 1 => true | 5, 0 => true | 5, 7 => true | 7, 1 => true | 8, 0 => true | 8, 1 => true | _, _ => false, head := fun i => match i with | 3 => some [0, 4, 5] | _ => none, tail := fun i e => match i, e with | 3, .exit 0 => some [0, 4] | 3, .ret => some [2, 3] | _, _ => none }
  | 144 => { head := fun i => match i with | 2 => some [0, 1, 5] | _ => none, tail := fun i e => match i, e with | 2, .exit 0 => some [0, 1] | 2, .ret => some [0, 4] | _, _ => none }
  | 145 => { draw := fun i => match i with | 6 => some (8, [[], [], [0, 1], [0, 1, 2], [], [], [4, 5], [4, 5, 6], [0, 1, 2, 3, 4, 5, 6, 7]]) | _ => none, head := fun i => match i with | 4 => some [0, 1, 12, 13] | _ => none, tail := fun i e => match i, e with | 4, .exit 0 => some [] | 4, .ret => some [4] | _, _ => none }
  | 147 => { draw := fun i => match i with | 10 => some (7, [[], [], [0, 1], [0, 1, 2], [0, 1, 2, 3], [], [5], [0, 1, 2, 3, 4, 5, 6]]) | _ => none, head := fun i => match i with | 2 => some [0, 1, 5] | _ => none, tail := fun i e => match i, e with | 2, .exit 0 => some [1] | 2, .ret => some [4] | _, _ => none }
  | 148 => { take := fun r i => match r, i with | 3, 3 => true | _, _ => false }
  | 167 => { take := fun r i => match r, i with | 5, 0 => true | 5, 5 => true | 7, 0 => true | 7, 1 => true | _, _ => false, head := fun i => match i with | 3 => some [3, 7, 8, 9] | _ => none, tail := fun i e => match i, e with | 3, .exit 0 => some [3] | 3, .ret => some [2] | _, _ => none }
  | 176 => { head := fun i => match i with | 4 => some [0, 3] | _ => none, tail := fun i e => match i, e with | 4, .exit 0 => some [3] | 4, .ret => some [2] | _, _ => none }
  | 177 => { head := fun i => match i with | 5 => some [0, 1, 5, 6] | _ => none, tail := fun i e => match i, e with | 5, .exit 0 => some [0, 5] | 5, .ret => some [4] | _, _ => none }
  | 195 => { head := fun i => match i with | 2 => some [0, 1, 7, 8] | _ => none, tail := fun i e => match i, e with | 2, .exit 0 => some [] | 2, .ret => some [4] | _, _ => none }
  | _ => {}
theorem allNil {α : Type} {p : α → Prop} : ∀ x ∈ ([] : List α), p x := fun x h => by cases h
theorem allCons {α : Type} {p : α → Prop} {a : α} {l : List α} (h : p a) (t : ∀ x ∈ l, p x) : ∀ x ∈ a :: l, p x := fun x hx => by
  rcases List.mem_cons.1 hx with rfl | hx
  · exact h
  · exact t x hx
theorem ts_ok : ∀ p ∈ tab.ts, tiOf Try.prog p.1 = some p.2 := allCons (by kernel_rfl) (allCons (by kernel_rfl) (allCons (by kernel_rfl) (allCons (by kernel_rfl) (allCons (by kernel_rfl) (allCons (by kernel_rfl) (allCons (by kernel_rfl) (allCons (by kernel_rfl) (allCons (by kernel_rfl) (allCons (by kernel_rfl) (allCons (by kernel_rfl) (allCons (by kernel_rfl) (allCons (by kernel_rfl) (allCons (by kernel_rfl) (allCons (by kernel_rfl) (allCons (by kernel_rfl) (allCons (by kernel_rfl) (allCons (by kernel_rfl) (allCons (by kernel_rfl) (allCons (by kernel_rfl) (allCons (by kernel_rfl) (allCons (by kernel_rfl) (allCons (by kernel_rfl) (allCons (by kernel_rfl) (allCons (by kernel_rfl) (allCons (by kernel_rfl) (allCons (by kernel_rfl) (allCons (by kernel_rfl) (allCons (by kernel_rfl) (allCons (by kernel_rfl) (allCons (by kernel_rfl) (allCons (by kernel_rfl) (allCons (by kernel_rfl) (allCons (by kernel_rfl) (allCons (by kernel_rfl) (allCons (by kernel_rfl) (allCons (by kernel_rfl) (allCons (by kernel_rfl) (allCons (by kernel_rfl) (allCons (by kernel_rfl) (allCons (by kernel_rfl) (allCons (by kernel_rfl) (allCons (by kernel_rfl) (allCons (by kernel_rfl) (allCons (by kernel_rfl) (allCons (by kernel_rfl) (allCons (by kernel_rfl) (allCons (by kernel_rfl) (allCons (by kernel_rfl) (allCons (by kernel_rfl) (allCons (by kernel_rfl) (allCons (by kernel_rfl) (allCons (by kernel_rfl) (allCons (by kernel_rfl) (allCons (by kernel_rfl) (allCons (by kernel_rfl) (allCons (by kernel_rfl) (allCons (by kernel_rfl) (allCons (by kernel_rfl) (allCons (by kernel_rfl) (allCons (by kernel_rfl) (allCons (by kernel_rfl) (allCons (by kernel_rfl) (allCons (by kernel_rfl) (allCons (by kernel_rfl) (allCons (by kernel_rfl) (allCons (by kernel_rfl) (allCons (by kernel_rfl) (allCons (by kernel_rfl) (allCons (by kernel_rfl) (allCons (by kernel_rfl) (allCons (by kernel_rfl) (allCons (by kernel_rfl) (allCons (by kernel_rfl) (allCons (by kernel_rfl) (allCons (by kernel_rfl) (allCons (by kernel_rfl) (allCons (by kernel_rfl) (allNil))))))))))))))))))))))))))))))))))))))))))))))))))))))))))))))))))))))))))))))
theorem eqs_ok : ∀ p ∈ tab.eqs, eqOf Try.prog p.1 = some p.2 := allCons (by kernel_rfl) (allCons (by kernel_rfl) (allCons (by kernel_rfl) (allCons (by kernel_rfl) (allCons (by kernel_rfl) (allCons (by kernel_rfl) (allCons (by kernel_rfl) (allCons (by kernel_rfl) (allCons (by kernel_rfl) (allCons (by kernel_rfl) (allCons (by kernel_rfl) (allCons (by kernel_rfl) (allCons (by kernel_rfl) (allCons (by kernel_rfl) (allCons (by kernel_rfl) (allCons (by kernel_rfl) (allNil))))))))))))))))
theorem pls_ok : ∀ p ∈ tab.pls, placesOf Try.prog p.1 = some p.2 := allCons (by kernel_rfl) (allCons (by kernel_rfl) (allCons (by kernel_rfl) (allCons (by kernel_rfl) (allCons (by kernel_rfl) (allCons (by kernel_rfl) (allCons (by kernel_rfl) (allCons (by kernel_rfl) (allCons (by kernel_rfl) (allCons (by kernel_rfl) (allCons (by kernel_rfl) (allCons (by kernel_rfl) (allCons (by kernel_rfl) (allCons (by kernel_rfl) (allCons (by kernel_rfl) (allCons (by kernel_rfl) (allCons (by kernel_rfl) (allCons (by kernel_rfl) (allCons (by kernel_rfl) (allCons (by kernel_rfl) (allCons (by kernel_rfl) (allCons (by kernel_rfl) (allCons (by kernel_rfl) (allCons (by kernel_rfl) (allCons (by kernel_rfl) (allCons (by kernel_rfl) (allCons (by kernel_rfl) (allCons (by kernel_rfl) (allCons (by kernel_rfl) (allCons (by kernel_rfl) (allCons (by kernel_rfl) (allCons (by kernel_rfl) (allCons (by kernel_rfl) (allCons (by kernel_rfl) (allCons (by kernel_rfl) (allCons (by kernel_rfl) (allCons (by kernel_rfl) (allCons (by kernel_rfl) (allCons (by kernel_rfl) (allCons (by kernel_rfl) (allCons (by kernel_rfl) (allCons (by kernel_rfl) (allCons (by kernel_rfl) (allCons (by kernel_rfl) (allCons (by kernel_rfl) (allCons (by kernel_rfl) (allCons (by kernel_rfl) (allNil)))))))))))))))))))))))))))))))))))))))))))))))
theorem ars_ok : ∀ p ∈ tab.ars, arOf Try.prog p.1 = some p.2 := allNil
theorem addr_ok : ∀ p ∈ tab.addr, AddrOk Try.prog p.1 p.2 := allNil
theorem tab_ok : TabOk Try.prog tab := ⟨ts_ok, eqs_ok, pls_ok, by kernel_rfl, ars_ok, addr_ok⟩
theorem fnTab_ok : ∀ p ∈ fnTab, Try.prog.funcs[p.1]? = some p.2 ∧ (p.2.name == "runtime.NumGoroutine") = false ∧ p.2.body.isNone = false := allCons ⟨Try.func4, by kernel_rfl, by kernel_rfl⟩ (allCons ⟨Try.func5, by kernel_rfl, by kernel_rfl⟩ (allCons ⟨Try.func6, by kernel_rfl, by kernel_rfl⟩ (allCons ⟨Try.func13, by kernel_rfl, by kernel_rfl⟩ (allCons ⟨Try.func14, by kernel_rfl, by kernel_rfl⟩ (allCons ⟨Try.func15, by kernel_rfl, by kernel_rfl⟩ (allCons ⟨Try.func16, by kernel_rfl, by kernel_rfl⟩ (allCons ⟨Try.func17, by kernel_rfl, by kernel_rfl⟩ (allCons ⟨Try.func18, by kernel_rfl, by kernel_rfl⟩ (allCons ⟨Try.func19, by kernel_rfl, by kernel_rfl⟩ (allCons ⟨Try.func20, by kernel_rfl, by kernel_rfl⟩ (allCons ⟨Try.func21, by kernel_rfl, by kernel_rfl⟩ (allCons ⟨Try.func22, by kernel_rfl, by kernel_rfl⟩ (allCons ⟨Try.func23, by kernel_rfl, by kernel_rfl⟩ (allCons ⟨Try.func24, by kernel_rfl, by kernel_rfl⟩ (allCons ⟨Try.func25, by kernel_rfl, by kernel_rfl⟩ (allCons ⟨Try.func26, by kernel_rfl, by kernel_rfl⟩ (allCons ⟨Try.func27, by kernel_rfl, by kernel_rfl⟩ (allCons ⟨Try.func28, by kernel_rfl, by kernel_rfl⟩ (allCons ⟨Try.func29, by kernel_rfl, by kernel_rfl⟩ (allCons ⟨Try.func50, by kernel_rfl, by kernel_rfl⟩ (allCons ⟨Try.func55, by kernel_rfl, by kernel_rfl⟩ (allCons ⟨Try.func57, by kernel_rfl, by kernel_rfl⟩ (allCons ⟨Try.func58, by kernel_rfl, by kernel_rfl⟩ (allCons ⟨Try.func59, by kernel_rfl, by kernel_rfl⟩ (allCons ⟨Try.func60, by kernel_rfl, by kernel_rfl⟩ (allCons ⟨Try.func67, by kernel_rfl, by kernel_rfl⟩ (allCons ⟨Try.func68, by kernel_rfl, by kernel_rfl⟩ (allCons ⟨Try.func69, by kernel_rfl, by kernel_rfl⟩ (allCons ⟨Try.func70, by kernel_rfl, by kernel_rfl⟩ (allCons ⟨Try.func71, by kernel_rfl, by kernel_rfl⟩ (allCons ⟨Try.func72, by kernel_rfl, by kernel_rfl⟩ (allCons ⟨Try.func73, by kernel_rfl, by kernel_rfl⟩ (allCons ⟨Try.func74, by kernel_rfl, by kernel_rfl⟩ (allCons ⟨Try.func75, by kernel_rfl, by kernel_rfl⟩ (allCons ⟨Try.func76, by kernel_rfl, by kernel_rfl⟩ (allCons ⟨Try.func77, by kernel_rfl, by kernel_rfl⟩ (allCons ⟨Try.func78, by kernel_rfl, by kernel_rfl⟩ (allCons ⟨Try.func79, by kernel_rfl, by kernel_rfl⟩ (allCons ⟨Try.func80, by kernel_rfl, by kernel_rfl⟩ (allCons ⟨Try.func81, by kernel_rfl, by kernel_rfl⟩ (allCons ⟨Try.func82, by kernel_rfl, by kernel_rfl⟩ (allCons ⟨Try.func83, by kernel_rfl, by kernel_rfl⟩ (allCons ⟨Try.func84, by kernel_rfl, by kernel_rfl⟩ (allCons ⟨Try.func85, by kernel_rfl, by kernel_rfl⟩ (allCons ⟨Try.func86, by kernel_rfl, by kernel_rfl⟩ (allCons ⟨Try.func87, by kernel_rfl, by kernel_rfl⟩ (allCons ⟨Try.func88, by kernel_rfl, by kernel_rfl⟩ (allCons ⟨Try.func89, by kernel_rfl, by kernel_rfl⟩ (allCons ⟨Try.func90, by kernel_rfl, by kernel_rfl⟩ (allCons ⟨Try.func91, by kernel_rfl, by kernel_rfl⟩ (allCons ⟨Try.func92, by kernel_rfl, by kernel_rfl⟩ (allCons ⟨Try.func93, by kernel_rfl, by kernel_rfl⟩ (allCons ⟨Try.func94, by kernel_rfl, by kernel_rfl⟩ (allCons ⟨Try.func99, by kernel_rfl, by kernel_rfl⟩ (allCons ⟨Try.func105, by kernel_rfl, by kernel_rfl⟩ (allCons ⟨Try.func114, by kernel_rfl, by kernel_rfl⟩ (allCons ⟨Try.func119, by kernel_rfl, by kernel_rfl⟩ (allCons ⟨Try.func120, by kernel_rfl, by kernel_rfl⟩ (allCons ⟨Try.func125, by kernel_rfl, by kernel_rfl⟩ (allCons ⟨Try.func131, by kernel_rfl, by kernel_rfl⟩ (allCons ⟨Try.func132, by kernel_rfl, by kernel_rfl⟩ (allCons ⟨Try.func133, by kernel_rfl, by kernel_rfl⟩ (allCons ⟨Try.func136, by kernel_rfl, by kernel_rfl⟩ (allCons ⟨Try.func137, by kernel_rfl, by kernel_rfl⟩ (allCons ⟨Try.func141, by kernel_rfl, by kernel_rfl⟩ (allCons ⟨Try.func142, by kernel_rfl, by kernel_rfl⟩ (allCons ⟨Try.func143, by kernel_rfl, by kernel_rfl⟩ (allCons ⟨Try.func144, by kernel_rfl, by kernel_rfl⟩ (allCons ⟨Try.func145, by kernel_rfl, by kernel_rfl⟩ (allCons ⟨Try.func146, by kernel_rfl, by kernel_rfl⟩ (allCons ⟨Try.func147, by kernel_rfl, by kernel_rfl⟩ (allCons ⟨Try.func148, by kernel_rfl, by kernel_rfl⟩ (allCons ⟨Try.func153, by kernel_rfl, by kernel_rfl⟩ (allCons ⟨Try.func154, by kernel_rfl, by kernel_rfl⟩ (allCons ⟨Try.func157, by kernel_rfl, by kernel_rfl⟩ (allCons ⟨Try.func167, by kernel_rfl, by kernel_rfl⟩ (allCons ⟨Try.func176, by kernel_rfl, by kernel_rfl⟩ (allCons ⟨Try.func177, by kernel_rfl, by kernel_rfl⟩ (allCons ⟨Try.func178, by kernel_rfl, by kernel_rfl⟩ (allCons ⟨Try.func195, by kernel_rfl, by kernel_rfl⟩ (allNil)))))))))))))))))))))))))))))))))))))))))))))))))))))))))))))))))))))))))))))))))
noncomputable def fns : FuncId → Option Func := fun f => fnTab.lookup f
theorem fns_ok : FnsOk Try.prog fns := fun f fn h => fnTab_ok (f, fn) (mem_of_lookup h)

noncomputable def E : Env := ⟨tab, fns, hints, orc⟩
theorem strAdd {tab : Tab} {t : Nat} {a b : ByteArray} (h : a.size + b.size ≤ maxStr) : binV tab .add t (.string a) (.string b) = some (.string (a ++ b)) := by
  show (if a.size + b.size ≤ maxStr then some (Value.string (a ++ b)) else none) = _
  rw [if_pos h]
theorem runs {f : FuncId} {xs : List (Sl Unit Unit)} {x : Value} (h : Does E f xs [(false, [.v x])]) {w : World} {ad : List DSl} {vs : List Value} (he : ad.map Sl.er = xs) (hA : ArgsIn w ad vs) :
    Calls Try.prog f vs.toArray w fun e w' => e = .returned x ∧ RowKit.Below w.heap.size w w' := Does.plain tab_ok fns_ok orc_ok h he hA
end Go.Proofs.Ytgpllfmogdpapaa.Am
