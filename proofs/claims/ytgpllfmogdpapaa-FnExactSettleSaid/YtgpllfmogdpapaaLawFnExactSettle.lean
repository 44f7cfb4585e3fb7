/- 'laws.FnExactSettle' returns true for every node and number, and leaves the node as it was. Conditions: none. -/
import Derived.Test.YtgpllfmogdpapaaNodesB
import Derived.Test.YtgpllfmogdpapaaMarks
import Derived.Test.YtgpllfmogdpapaaRows
import Derived.WalkKit
import Derived.ProofKit
import Derived.OpenShut
import Derived.ShutString
import Derived.ChangeOld
import Derived.Below
import Derived.SizedLaws
namespace Go.Proofs.Ytgpllfmogdpapaa.Am
set_option linter.unusedVariables false
set_option linter.unusedSimpArgs false
open Go Go.Proofs Classical
set_option maxRecDepth 100000
set_option linter.unusedVariables false
set_option linter.unusedSimpArgs false
theorem s_l06Last_P0 (x0 : GLog)  : Does E 132 [.agg (GLog.t .far x0)] [(false, [tI (IntKind.wrap .i64 (x0.f0 + (x0.f2.length : Int)))])] :=
  Does.path (fn := Try.f132) [.val (.int .i64 (x0.f2.length : Int))] _ rfl (fun _ => rfl) (fun k => by kernel_rfl) (AV (ψ := fun _ => ((x0.f2.map GEntry.t).length : Int) = (x0.f2.length : Int)) (Ev.c lenMap) <| AN)
noncomputable def s_l06Last_F (x0 : GLog) : Option (Int) :=
    some (IntKind.wrap .i64 (x0.f0 + (x0.f2.length : Int)))
theorem s_l06Last_D (x0 : GLog) : Ans (s_l06Last_F x0) (fun r => Does E 132 [.agg (GLog.t .far x0)] [(false, [tI r])]) := by
  unfold s_l06Last_F
  exact Ans.some (s_l06Last_P0 x0)
theorem T_s_l06Last (x0 : GLog) : Does E 132 [.agg (GLog.t .far x0)] [(false, [tI (logEnd x0)])] := by
  exact s_l06Last_D x0 _ rfl
theorem s_LogTerm_P0 (x0 : GLog) (x1 : Int) (h0 : (x1 == x0.f0) = true) : Does E 93 [.agg (GLog.t .far x0), .one (tI x1)] [(false, [tI x0.f1])] :=
  Does.path (fn := Try.f93) [.b true] _ rfl (fun _ => rfl) (fun k => by kernel_rfl) (AC h0 <| AN)
theorem s_LogTerm_P1 (x0 : GLog) (x1 : Int) (h0 : (x1 == x0.f0) = false) (h1 : (decide (x1 < x0.f0)) = true) : Does E 93 [.agg (GLog.t .far x0), .one (tI x1)] [(false, [tI (-1 : Int)])] :=
  Does.path (fn := Try.f93) [.b false, .b true] _ rfl (fun _ => rfl) (fun k => by kernel_rfl) (AC h0 <| AC h1 <| AN)
theorem s_LogTerm_P2 (x0 : GLog) (x1 : Int) (h0 : (x1 == x0.f0) = false) (h1 : (decide (x1 < x0.f0)) = false) (h2 : (decide (x1 > (logEnd x0))) = true) : Does E 93 [.agg (GLog.t .far x0), .one (tI x1)] [(false, [tI (-1 : Int)])] :=
  Does.path (fn := Try.f93) [.b false, .b false, .ret [(false, [tI (logEnd x0)])], .b true] _ rfl (fun _ => rfl) (fun k => by kernel_rfl) (AC h0 <| AC h1 <| AD (T_s_l06Last x0) <| AC h2 <| AN)
theorem s_LogTerm_P3 (x0 : GLog) (x1 : Int) (g0 : GEntry) (h0 : (x1 == x0.f0) = false) (h1 : (decide (x1 < x0.f0)) = false) (h2 : (decide (x1 > (logEnd x0))) = false) (h3 : getI x0.f2 (IntKind.wrap .i64 ((IntKind.wrap .i64 (x1 - x0.f0)) - (1 : Int))) = some g0) : Does E 93 [.agg (GLog.t .far x0), .one (tI x1)] [(false, [tI g0.f0])] :=
  Does.path (fn := Try.f93) [.b false, .b false, .ret [(false, [tI (logEnd x0)])], .b false, .row (GEntry.t g0)] _ rfl (fun _ => rfl) (fun k => by kernel_rfl) (AC h0 <| AC h1 <| AD (T_s_l06Last x0) <| AC h2 <| AV (ψ := fun _ => 0 ≤ (IntKind.wrap .i64 ((IntKind.wrap .i64 (x1 - x0.f0)) - (1 : Int))) ∧ (x0.f2.map GEntry.t)[(IntKind.wrap .i64 ((IntKind.wrap .i64 (x1 - x0.f0)) - (1 : Int))).toNat]? = some (GEntry.t g0)) (Ev.c (getRow h3)) <| AN)
noncomputable def s_LogTerm_F (x0 : GLog) (x1 : Int) : Option (Int) :=
    cond (x1 == x0.f0)
      (some (x0.f1))
      (cond (decide (x1 < x0.f0))
        (some ((-1 : Int)))
        (cond (decide (x1 > (logEnd x0)))
          (some ((-1 : Int)))
          ((getI x0.f2 (IntKind.wrap .i64 ((IntKind.wrap .i64 (x1 - x0.f0)) - (1 : Int)))).bind fun g0 => some (g0.f0))))
theorem s_LogTerm_D (x0 : GLog) (x1 : Int) : Ans (s_LogTerm_F x0 x1) (fun r => Does E 93 [.agg (GLog.t .far x0), .one (tI x1)] [(false, [tI r])]) := by
  unfold s_LogTerm_F
  refine Ans.ite (fun h0 => ?_) (fun h0 => ?_)
  · exact Ans.some (s_LogTerm_P0 x0 x1 h0)
  · refine Ans.ite (fun h1 => ?_) (fun h1 => ?_)
    · exact Ans.some (s_LogTerm_P1 x0 x1 h0 h1)
    · refine Ans.ite (fun h2 => ?_) (fun h2 => ?_)
      · exact Ans.some (s_LogTerm_P2 x0 x1 h0 h1 h2)
      · refine Ans.bind (fun g0 h3 => ?_)
        exact Ans.some (s_LogTerm_P3 x0 x1 g0 h0 h1 h2 h3)
theorem i_LogTerm_P0 (x0 : GLog) (x1 : Int) (h0 : (x1 == x0.f0) = true) : Does E 57 [.agg (GLog.t .far x0), .one (tI x1)] [(false, [tI x0.f1])] :=
  Does.path (fn := Try.f57) [.no, .b true] _ rfl (fun _ => rfl) (fun k => by kernel_rfl) (AC h0 <| AN)
theorem i_LogTerm_P1 (x0 : GLog) (x1 : Int) (g0 : GEntry) (h0 : (x1 == x0.f0) = false) (h1 : (decide (x1 > x0.f0)) = true) (h2 : (decide ((IntKind.wrap .i64 (x1 - x0.f0)) > (0 : Int))) = true) (h3 : (decide ((IntKind.wrap .i64 (x1 - x0.f0)) ≤ (x0.f2.length : Int))) = true) (h4 : getI x0.f2 (IntKind.wrap .i64 ((IntKind.wrap .i64 (x1 - x0.f0)) - (1 : Int))) = some g0) : Does E 57 [.agg (GLog.t .far x0), .one (tI x1)] [(false, [tI g0.f0])] :=
  Does.path (fn := Try.f57) [.no, .b false, .b true, .b true, .val (.int .i64 (x0.f2.length : Int)), .b true, .row (GEntry.t g0)] _ rfl (fun _ => rfl) (fun k => by kernel_rfl) (AC h0 <| AC h1 <| AC h2 <| AV (ψ := fun _ => ((x0.f2.map GEntry.t).length : Int) = (x0.f2.length : Int)) (Ev.c lenMap) <| AC h3 <| AV (ψ := fun _ => 0 ≤ (IntKind.wrap .i64 ((IntKind.wrap .i64 (x1 - x0.f0)) - (1 : Int))) ∧ (x0.f2.map GEntry.t)[(IntKind.wrap .i64 ((IntKind.wrap .i64 (x1 - x0.f0)) - (1 : Int))).toNat]? = some (GEntry.t g0)) (Ev.c (getRow h4)) <| AN)
theorem i_LogTerm_P2 (x0 : GLog) (x1 : Int) (h0 : (x1 == x0.f0) = false) (h1 : (decide (x1 > x0.f0)) = true) (h2 : (decide ((IntKind.wrap .i64 (x1 - x0.f0)) > (0 : Int))) = true) (h3 : (decide ((IntKind.wrap .i64 (x1 - x0.f0)) ≤ (x0.f2.length : Int))) = false) : Does E 57 [.agg (GLog.t .far x0), .one (tI x1)] [(false, [tI (-1 : Int)])] :=
  Does.path (fn := Try.f57) [.no, .b false, .b true, .b true, .val (.int .i64 (x0.f2.length : Int)), .b false] _ rfl (fun _ => rfl) (fun k => by kernel_rfl) (AC h0 <| AC h1 <| AC h2 <| AV (ψ := fun _ => ((x0.f2.map GEntry.t).length : Int) = (x0.f2.length : Int)) (Ev.c lenMap) <| AC h3 <| AN)
theorem i_LogTerm_P3 (x0 : GLog) (x1 : Int) (h0 : (x1 == x0.f0) = false) (h1 : (decide (x1 > x0.f0)) = true) (h2 : (decide ((IntKind.wrap .i64 (x1 - x0.f0)) > (0 : Int))) = false) : Does E 57 [.agg (GLog.t .far x0), .one (tI x1)] [(false, [tI (-1 : Int)])] :=
  Does.path (fn := Try.f57) [.no, .b false, .b true, .b false] _ rfl (fun _ => rfl) (fun k => by kernel_rfl) (AC h0 <| AC h1 <| AC h2 <| AN)
theorem i_LogTerm_P4 (x0 : GLog) (x1 : Int) (h0 : (x1 == x0.f0) = false) (h1 : (decide (x1 > x0.f0)) = false) : Does E 57 [.agg (GLog.t .far x0), .one (tI x1)] [(false, [tI (-1 : Int)])] :=
  Does.path (fn := Try.f57) [.no, .b false, .b false] _ rfl (fun _ => rfl) (fun k => by kernel_rfl) (AC h0 <| AC h1 <| AN)
noncomputable def i_LogTerm_F (x0 : GLog) (x1 : Int) : Option (Int) :=
    cond (x1 == x0.f0)
      (some (x0.f1))
      (cond (decide (x1 > x0.f0))
        (cond (decide ((IntKind.wrap .i64 (x1 - x0.f0)) > (0 : Int)))
          (cond (decide ((IntKind.wrap .i64 (x1 - x0.f0)) ≤ (x0.f2.length : Int)))
            ((getI x0.f2 (IntKind.wrap .i64 ((IntKind.wrap .i64 (x1 - x0.f0)) - (1 : Int)))).bind fun g0 => some (g0.f0))
            (some ((-1 : Int))))
          (some ((-1 : Int))))
        (some ((-1 : Int))))
theorem i_LogTerm_D (x0 : GLog) (x1 : Int) : Ans (i_LogTerm_F x0 x1) (fun r => Does E 57 [.agg (GLog.t .far x0), .one (tI x1)] [(false, [tI r])]) := by
  unfold i_LogTerm_F
  refine Ans.ite (fun h0 => ?_) (fun h0 => ?_)
  · exact Ans.some (i_LogTerm_P0 x0 x1 h0)
  · refine Ans.ite (fun h1 => ?_) (fun h1 => ?_)
    · refine Ans.ite (fun h2 => ?_) (fun h2 => ?_)
      · refine Ans.ite (fun h3 => ?_) (fun h3 => ?_)
        · refine Ans.bind (fun g0 h4 => ?_)
          exact Ans.some (i_LogTerm_P1 x0 x1 g0 h0 h1 h2 h3 h4)
        · exact Ans.some (i_LogTerm_P2 x0 x1 h0 h1 h2 h3)
      · exact Ans.some (i_LogTerm_P3 x0 x1 h0 h1 h2)
    · exact Ans.some (i_LogTerm_P4 x0 x1 h0 h1)
def logTerm (l : GLog) (i : Int) : Int := if i = l.f0 then l.f1 else ((l.f2[(i - l.f0 - 1).toNat]?).map GEntry.f0).getD (-1)
theorem inRange_in {x a b : Int} (h : inRange x a b = true) : a ≤ x ∧ x ≤ b := by
  unfold inRange at h
  simp only [Bool.and_eq_true, decide_eq_true_eq] at h
  omega
theorem term_at (l : GLog) (i : Int) (h1 : logOk l = true) (h2 : inRange i l.f0 (logEnd l) = true) (h : i ≠ l.f0) : IntKind.wrap .i64 (i - l.f0) = i - l.f0 ∧ 0 < i - l.f0 ∧ i - l.f0 ≤ (l.f2.length : Int) ∧ getI l.f2 (IntKind.wrap .i64 (i - l.f0 - 1)) = l.f2[(i - l.f0 - 1).toNat]? ∧ (∃ e, l.f2[(i - l.f0 - 1).toNat]? = some e) := by
  obtain ⟨p0, p1, p2, p3⟩ := logOk_in h1
  have := inRange_in h2
  rw [p2] at this
  have e : IntKind.wrap .i64 (i - l.f0) = i - l.f0 := wrap_id _ (by omega) (by omega)
  refine ⟨e, by omega, by omega, ?_, ?_⟩
  · rw [wrap_id _ (by omega) (by omega)]
    unfold getI
    rw [if_pos (by omega)]
  · exact ⟨_, List.getElem?_eq_getElem (by omega)⟩
theorem T_s_LogTerm (x0 : GLog) (x1 : Int) (h : Small.sm x0) (h1 : logOk x0 = true) (h2 : inRange x1 x0.f0 (logEnd x0) = true) : Does E 93 [.agg (GLog.t .far x0), .one (tI x1)] [(false, [tI (logTerm x0 x1)])] := by
  exact s_LogTerm_D x0 x1 _ (by
    unfold s_LogTerm_F logTerm
    by_cases q : x1 = x0.f0
    · rw [show (x1 == x0.f0) = true by simpa using q, if_pos q]; rfl
    · obtain ⟨a1, a2, a3, a4, e, a5⟩ := term_at x0 x1 h1 h2 q
      have := inRange_in h2
      rw [show (x1 == x0.f0) = false by simpa using q, if_neg q, cond_false, a1, a4, a5]
      rw [decide_eq_false (by omega), decide_eq_false (by omega)]
      rfl)
theorem T_i_LogTerm (x0 : GLog) (x1 : Int) (h : Small.sm x0) (h1 : logOk x0 = true) (h2 : inRange x1 x0.f0 (logEnd x0) = true) : Does E 57 [.agg (GLog.t .far x0), .one (tI x1)] [(false, [tI (logTerm x0 x1)])] := by
  exact i_LogTerm_D x0 x1 _ (by
    unfold i_LogTerm_F logTerm
    by_cases q : x1 = x0.f0
    · rw [show (x1 == x0.f0) = true by simpa using q, if_pos q]; rfl
    · obtain ⟨a1, a2, a3, a4, e, a5⟩ := term_at x0 x1 h1 h2 q
      have := inRange_in h2
      rw [show (x1 == x0.f0) = false by simpa using q, if_neg q, cond_false, a1, a4, a5]
      rw [decide_eq_true (by omega), decide_eq_true (by omega), decide_eq_true (by omega)]
      rfl)
theorem slices_Clone_Entry_P0 (h : ([] : List GEntry).length * 32 ≤ 140737488355328 ∧ ([] : List GEntry).length ≤ 4611686018427387904) : Does E 136 [.one (.s .far () 3 (([] : List GEntry).map GEntry.t))] [(false, [.s .own () 3 (([] : List GEntry).map GEntry.t)])] :=
  Does.path (fn := Try.f136) [.b true, .rows (([] : List GEntry).map GEntry.t)] [fun _ => (([] : List GEntry).map GEntry.t).length = 0, fun _ => ([(false, [.s .own () 3 ([] : List (List (T Unit)))])] : URes) = [(false, [.s .own () 3 ([] : List (List (T Unit)))])], fun _ => (([] : List GEntry).map GEntry.t).all (fun r => r.all T.flat) = true ∧ (([] : List (List (T Unit))).length + (([] : List GEntry).map GEntry.t).length) * 32 ≤ 140737488355328 ∧ ([] : List (List (T Unit))).length + (([] : List GEntry).map GEntry.t).length ≤ 4611686018427387904, fun _ => ([] : List (List (T Unit))) ++ (([] : List GEntry).map GEntry.t) = (([] : List GEntry).map GEntry.t)] rfl (fun _ => rfl) (fun k => by kernel_rfl) ⟨Ev.c rfl, Ev.c rfl, Ev.c (cloneOk (fun x => rfl) h), Ev.c rfl, trivial⟩
theorem slices_Clone_Entry_P1 (y : GEntry) (l : List GEntry) (h : (y :: l).length * 32 ≤ 140737488355328 ∧ (y :: l).length ≤ 4611686018427387904) : Does E 136 [.one (.s .far () 3 ((y :: l).map GEntry.t))] [(false, [.s .own () 3 ((y :: l).map GEntry.t)])] :=
  Does.path (fn := Try.f136) [.b false, .rows ((y :: l).map GEntry.t)] [fun _ => ((y :: l).map GEntry.t).length ≠ 0, fun _ => ((y :: l).map GEntry.t).all (fun r => r.all T.flat) = true ∧ (([] : List (List (T Unit))).length + ((y :: l).map GEntry.t).length) * 32 ≤ 140737488355328 ∧ ([] : List (List (T Unit))).length + ((y :: l).map GEntry.t).length ≤ 4611686018427387904, fun _ => ([] : List (List (T Unit))) ++ ((y :: l).map GEntry.t) = ((y :: l).map GEntry.t)] rfl (fun _ => rfl) (fun k => by kernel_rfl) ⟨Ev.c (by simp), Ev.c (cloneOk (fun x => rfl) h), Ev.c rfl, trivial⟩
noncomputable def slices_Clone_Entry_F (x0 : List GEntry) : Option (List GEntry) := if x0.length * 32 ≤ 140737488355328 ∧ x0.length ≤ 4611686018427387904 then some x0 else none
theorem slices_Clone_Entry_D (x0 : List GEntry) : Ans (slices_Clone_Entry_F x0) (fun r => Does E 136 [.one (.s .far () 3 (x0.map GEntry.t))] [(false, [.s .own () 3 (r.map GEntry.t)])]) := by
  unfold slices_Clone_Entry_F
  refine Ans.pre (fun h => Ans.some ?_)
  cases x0 with
  | nil => exact slices_Clone_Entry_P0 h
  | cons y l => exact slices_Clone_Entry_P1 y l h
theorem T_slices_Clone_Entry (x0 : List GEntry) (h : x0.length ≤ 1050000) : Does E 136 [.one (.s .far () 3 (x0.map GEntry.t))] [(false, [.s .own () 3 ((id x0).map GEntry.t)])] := by
  exact slices_Clone_Entry_D x0 _ (by unfold slices_Clone_Entry_F; rw [if_pos (by omega)]; rfl)
theorem slices_Clone_Peer_P0 (h : ([] : List GPeer).length * 32 ≤ 140737488355328 ∧ ([] : List GPeer).length ≤ 4611686018427387904) : Does E 148 [.one (.s .far () 4 (([] : List GPeer).map GPeer.t))] [(false, [.s .own () 4 (([] : List GPeer).map GPeer.t)])] :=
  Does.path (fn := Try.f148) [.b true, .rows (([] : List GPeer).map GPeer.t)] [fun _ => (([] : List GPeer).map GPeer.t).length = 0, fun _ => ([(false, [.s .own () 4 ([] : List (List (T Unit)))])] : URes) = [(false, [.s .own () 4 ([] : List (List (T Unit)))])], fun _ => (([] : List GPeer).map GPeer.t).all (fun r => r.all T.flat) = true ∧ (([] : List (List (T Unit))).length + (([] : List GPeer).map GPeer.t).length) * 32 ≤ 140737488355328 ∧ ([] : List (List (T Unit))).length + (([] : List GPeer).map GPeer.t).length ≤ 4611686018427387904, fun _ => ([] : List (List (T Unit))) ++ (([] : List GPeer).map GPeer.t) = (([] : List GPeer).map GPeer.t)] rfl (fun _ => rfl) (fun k => by kernel_rfl) ⟨Ev.c rfl, Ev.c rfl, Ev.c (cloneOk (fun x => rfl) h), Ev.c rfl, trivial⟩
theorem slices_Clone_Peer_P1 (y : GPeer) (l : List GPeer) (h : (y :: l).length * 32 ≤ 140737488355328 ∧ (y :: l).length ≤ 4611686018427387904) : Does E 148 [.one (.s .far () 4 ((y :: l).map GPeer.t))] [(false, [.s .own () 4 ((y :: l).map GPeer.t)])] :=
  Does.path (fn := Try.f148) [.b false, .rows ((y :: l).map GPeer.t)] [fun _ => ((y :: l).map GPeer.t).length ≠ 0, fun _ => ((y :: l).map GPeer.t).all (fun r => r.all T.flat) = true ∧ (([] : List (List (T Unit))).length + ((y :: l).map GPeer.t).length) * 32 ≤ 140737488355328 ∧ ([] : List (List (T Unit))).length + ((y :: l).map GPeer.t).length ≤ 4611686018427387904, fun _ => ([] : List (List (T Unit))) ++ ((y :: l).map GPeer.t) = ((y :: l).map GPeer.t)] rfl (fun _ => rfl) (fun k => by kernel_rfl) ⟨Ev.c (by simp), Ev.c (cloneOk (fun x => rfl) h), Ev.c rfl, trivial⟩
noncomputable def slices_Clone_Peer_F (x0 : List GPeer) : Option (List GPeer) := if x0.length * 32 ≤ 140737488355328 ∧ x0.length ≤ 4611686018427387904 then some x0 else none
theorem slices_Clone_Peer_D (x0 : List GPeer) : Ans (slices_Clone_Peer_F x0) (fun r => Does E 148 [.one (.s .far () 4 (x0.map GPeer.t))] [(false, [.s .own () 4 (r.map GPeer.t)])]) := by
  unfold slices_Clone_Peer_F
  refine Ans.pre (fun h => Ans.some ?_)
  cases x0 with
  | nil => exact slices_Clone_Peer_P0 h
  | cons y l => exact slices_Clone_Peer_P1 y l h
theorem T_slices_Clone_Peer (x0 : List GPeer) (h : x0.length ≤ 1050000) : Does E 148 [.one (.s .far () 4 (x0.map GPeer.t))] [(false, [.s .own () 4 ((id x0).map GPeer.t)])] := by
  exact slices_Clone_Peer_D x0 _ (by unfold slices_Clone_Peer_F; rw [if_pos (by omega)]; rfl)
noncomputable def logBehind (l : GLog) (i t : Int) : GLog := cond (logOk l && inRange i l.f0 (logEnd l) && (logTerm l i == t)) ⟨i, t, l.f2.drop (i - l.f0).toNat⟩ ⟨i, t, []⟩
theorem sm_drop {α : Type} [Small α] {l : List α} {n : Nat} (h : Small.sm l) : Small.sm (l.drop n) := ⟨by rw [List.length_drop]; have := h.1; omega, fun y hy => h.2 y (List.mem_of_mem_drop hy)⟩
theorem sm_logBehind {l : GLog} {i t : Int} (h : Small.sm l) : Small.sm (logBehind l i t) := by
  have h2 : Small.sm l.f2 := h
  unfold logBehind
  cases logOk l && inRange i l.f0 (logEnd l) && (logTerm l i == t) with
  | true => exact sm_drop h2
  | false => exact sm_nil
theorem s_LogBehind_P0 (x0 : GLog) (x1 : Int) (x2 : Int) (h0 : Small.sm x0) (h1 : (logOk x0) = true) (h2 : (inRange x1 x0.f0 (logEnd x0)) = true) (h3 : logOk x0 = true) (h4 : inRange x1 x0.f0 (logEnd x0) = true) (h5 : ((logTerm x0 x1) == x2) = true) (h6 : 0 ≤ (IntKind.wrap .i64 (x1 - x0.f0)) ∧ (IntKind.wrap .i64 (x1 - x0.f0)) ≤ (x0.f2.length : Int) ∧ (x0.f2.length : Int) ≤ (x0.f2.length : Int)) (h7 : (([] : List GEntry).length + (x0.f2.drop (IntKind.wrap .i64 (x1 - x0.f0)).toNat).length) * 32 ≤ 140737488355328 ∧ ([] : List GEntry).length + (x0.f2.drop (IntKind.wrap .i64 (x1 - x0.f0)).toNat).length ≤ 4611686018427387904) : Does E 92 [.agg (GLog.t .far x0), .one (tI x1), .one (tI x2)] [(true, GLog.t .own (GLog.mk x1 x2 (([] : List GEntry) ++ (x0.f2.drop (IntKind.wrap .i64 (x1 - x0.f0)).toNat))))] :=
  Does.path (fn := Try.f92) [rT, .ret [(false, [tI (logEnd x0)])], rT, .ret [(false, [tI (logTerm x0 x1)])], .b true, .rows ((x0.f2.drop (IntKind.wrap .i64 (x1 - x0.f0)).toNat).map GEntry.t), .rows ((([] : List GEntry) ++ (x0.f2.drop (IntKind.wrap .i64 (x1 - x0.f0)).toNat)).map GEntry.t)] _ rfl (fun _ => rfl) (fun k => by kernel_rfl) (AD (Does.tB (T_s_LogOk x0 h0) h1) <| AD (T_s_l06Last x0) <| AD (Does.tB (T_s_l01In x1 x0.f0 (logEnd x0)) h2) <| AD (T_s_LogTerm x0 x1 h0 h3 h4) <| AC h5 <| AV (ψ := fun _ => 0 ≤ (IntKind.wrap .i64 (x1 - x0.f0)) ∧ (IntKind.wrap .i64 (x1 - x0.f0)) ≤ ((x0.f2.map GEntry.t).length : Int) ∧ ((x0.f2.map GEntry.t).length : Int) ≤ ((x0.f2.map GEntry.t).length : Int)) (Ev.c (sliceOkN h6)) <| AV (ψ := fun _ => ((x0.f2.map GEntry.t).drop (IntKind.wrap .i64 (x1 - x0.f0)).toNat).take (((x0.f2.map GEntry.t).length : Int).toNat - (IntKind.wrap .i64 (x1 - x0.f0)).toNat) = (x0.f2.drop (IntKind.wrap .i64 (x1 - x0.f0)).toNat).map GEntry.t) (Ev.c sliceMapN) <| AV (ψ := fun _ => ((x0.f2.drop (IntKind.wrap .i64 (x1 - x0.f0)).toNat).map GEntry.t).all (fun r => r.all T.flat) = true ∧ ((([] : List GEntry).map GEntry.t).length + ((x0.f2.drop (IntKind.wrap .i64 (x1 - x0.f0)).toNat).map GEntry.t).length) * 32 ≤ 140737488355328 ∧ (([] : List GEntry).map GEntry.t).length + ((x0.f2.drop (IntKind.wrap .i64 (x1 - x0.f0)).toNat).map GEntry.t).length ≤ 4611686018427387904) (Ev.c (by exact appOk (fun x => rfl) h7)) <| AV (ψ := fun _ => (([] : List GEntry).map GEntry.t) ++ ((x0.f2.drop (IntKind.wrap .i64 (x1 - x0.f0)).toNat).map GEntry.t) = (([] : List GEntry) ++ (x0.f2.drop (IntKind.wrap .i64 (x1 - x0.f0)).toNat)).map GEntry.t) (Ev.c (by exact appMap)) <| AN)
theorem s_LogBehind_P1 (x0 : GLog) (x1 : Int) (x2 : Int) (h0 : Small.sm x0) (h1 : (logOk x0) = true) (h2 : (inRange x1 x0.f0 (logEnd x0)) = true) (h3 : logOk x0 = true) (h4 : inRange x1 x0.f0 (logEnd x0) = true) (h5 : ((logTerm x0 x1) == x2) = false) : Does E 92 [.agg (GLog.t .far x0), .one (tI x1), .one (tI x2)] [(true, GLog.t .own (GLog.mk x1 x2 ([] : List GEntry)))] :=
  Does.path (fn := Try.f92) [rT, .ret [(false, [tI (logEnd x0)])], rT, .ret [(false, [tI (logTerm x0 x1)])], .b false] _ rfl (fun _ => rfl) (fun k => by kernel_rfl) (AD (Does.tB (T_s_LogOk x0 h0) h1) <| AD (T_s_l06Last x0) <| AD (Does.tB (T_s_l01In x1 x0.f0 (logEnd x0)) h2) <| AD (T_s_LogTerm x0 x1 h0 h3 h4) <| AC h5 <| AN)
theorem s_LogBehind_P2 (x0 : GLog) (x1 : Int) (x2 : Int) (h0 : Small.sm x0) (h1 : (logOk x0) = true) (h2 : (inRange x1 x0.f0 (logEnd x0)) = false) : Does E 92 [.agg (GLog.t .far x0), .one (tI x1), .one (tI x2)] [(true, GLog.t .own (GLog.mk x1 x2 ([] : List GEntry)))] :=
  Does.path (fn := Try.f92) [rT, .ret [(false, [tI (logEnd x0)])], rF] _ rfl (fun _ => rfl) (fun k => by kernel_rfl) (AD (Does.tB (T_s_LogOk x0 h0) h1) <| AD (T_s_l06Last x0) <| AD (Does.tB (T_s_l01In x1 x0.f0 (logEnd x0)) h2) <| AN)
theorem s_LogBehind_P3 (x0 : GLog) (x1 : Int) (x2 : Int) (h0 : Small.sm x0) (h1 : (logOk x0) = false) : Does E 92 [.agg (GLog.t .far x0), .one (tI x1), .one (tI x2)] [(true, GLog.t .own (GLog.mk x1 x2 ([] : List GEntry)))] :=
  Does.path (fn := Try.f92) [rF] _ rfl (fun _ => rfl) (fun k => by kernel_rfl) (AD (Does.tB (T_s_LogOk x0 h0) h1) <| AN)
noncomputable def s_LogBehind_F (x0 : GLog) (x1 : Int) (x2 : Int) : Option (GLog) :=
    if Small.sm x0 then cond (logOk x0)
      (cond (inRange x1 x0.f0 (logEnd x0))
        (if logOk x0 = true then if inRange x1 x0.f0 (logEnd x0) = true then cond ((logTerm x0 x1) == x2)
          (if 0 ≤ (IntKind.wrap .i64 (x1 - x0.f0)) ∧ (IntKind.wrap .i64 (x1 - x0.f0)) ≤ (x0.f2.length : Int) ∧ (x0.f2.length : Int) ≤ (x0.f2.length : Int) then if (([] : List GEntry).length + (x0.f2.drop (IntKind.wrap .i64 (x1 - x0.f0)).toNat).length) * 32 ≤ 140737488355328 ∧ ([] : List GEntry).length + (x0.f2.drop (IntKind.wrap .i64 (x1 - x0.f0)).toNat).length ≤ 4611686018427387904 then some ((GLog.mk x1 x2 (([] : List GEntry) ++ (x0.f2.drop (IntKind.wrap .i64 (x1 - x0.f0)).toNat)))) else none else none)
          (some ((GLog.mk x1 x2 ([] : List GEntry)))) else none else none)
        (some ((GLog.mk x1 x2 ([] : List GEntry)))))
      (some ((GLog.mk x1 x2 ([] : List GEntry)))) else none
theorem s_LogBehind_D (x0 : GLog) (x1 : Int) (x2 : Int) : Ans (s_LogBehind_F x0 x1 x2) (fun r => Does E 92 [.agg (GLog.t .far x0), .one (tI x1), .one (tI x2)] [(true, GLog.t .own r)]) := by
  unfold s_LogBehind_F
  refine Ans.pre (fun h0 => ?_)
  refine Ans.ite (fun h1 => ?_) (fun h1 => ?_)
  · refine Ans.ite (fun h2 => ?_) (fun h2 => ?_)
    · refine Ans.pre (fun h3 => ?_)
      refine Ans.pre (fun h4 => ?_)
      refine Ans.ite (fun h5 => ?_) (fun h5 => ?_)
      · refine Ans.pre (fun h6 => ?_)
        refine Ans.pre (fun h7 => ?_)
        exact Ans.some (s_LogBehind_P0 x0 x1 x2 h0 h1 h2 h3 h4 h5 h6 h7)
      · exact Ans.some (s_LogBehind_P1 x0 x1 x2 h0 h1 h2 h3 h4 h5)
    · exact Ans.some (s_LogBehind_P2 x0 x1 x2 h0 h1 h2)
  · exact Ans.some (s_LogBehind_P3 x0 x1 x2 h0 h1)
theorem T_s_LogBehind (x0 : GLog) (x1 : Int) (x2 : Int) (h : Small.sm x0) : Does E 92 [.agg (GLog.t .far x0), .one (tI x1), .one (tI x2)] [(true, GLog.t .own (logBehind x0 x1 x2))] := by
  exact s_LogBehind_D x0 x1 x2 _ (by
    have hl : Small.sm x0.f2 := h
    have hl2 : x0.f2.length ≤ 1050000 := hl.1
    unfold s_LogBehind_F logBehind
    simp only [h, true_and, if_true]
    cases h1 : logOk x0 with
    | false => rfl
    | true =>
      cases h2 : inRange x1 x0.f0 (logEnd x0) with
      | false => rfl
      | true =>
        obtain ⟨p0, p1, p2, p3⟩ := logOk_in h1
        have r := inRange_in h2
        rw [p2] at r
        have e : IntKind.wrap .i64 (x1 - x0.f0) = x1 - x0.f0 := wrap_id _ (by omega) (by omega)
        have hd : (x0.f2.drop (x1 - x0.f0).toNat).length ≤ 1050000 := by rw [List.length_drop]; omega
        simp only [cond_true, if_true, e, Bool.true_and]
        rw [if_pos (by omega)]
        rw [if_pos (by simp only [List.length_nil]; omega)]
        simp only [List.nil_append]
        cases logTerm x0 x1 == x2 <;> rfl)
theorem i_LogBehind_P0 (x0 : GLog) (x1 : Int) (x2 : Int) (h0 : Small.sm x0) (h1 : (logOk x0) = true) (h2 : (inRange x1 x0.f0 (logEnd x0)) = true) (h3 : logOk x0 = true) (h4 : inRange x1 x0.f0 (logEnd x0) = true) (h5 : ((logTerm x0 x1) == x2) = true) (h6 : 0 ≤ (IntKind.wrap .i64 (x1 - x0.f0)) ∧ (IntKind.wrap .i64 (x1 - x0.f0)) ≤ (x0.f2.length : Int) ∧ (x0.f2.length : Int) ≤ (x0.f2.length : Int)) (h7 : (x0.f2.drop (IntKind.wrap .i64 (x1 - x0.f0)).toNat).length ≤ 1050000) : Does E 58 [.agg (GLog.t .far x0), .one (tI x1), .one (tI x2)] [(true, GLog.t .own (GLog.mk x1 x2 (id (x0.f2.drop (IntKind.wrap .i64 (x1 - x0.f0)).toNat))))] :=
  Does.path (fn := Try.f58) [rT, .ret [(false, [tI (logEnd x0)])], rT, .ret [(false, [tI (logTerm x0 x1)])], .b true, .rows ((x0.f2.drop (IntKind.wrap .i64 (x1 - x0.f0)).toNat).map GEntry.t), .ret [(false, [.s .own () 3 ((id (x0.f2.drop (IntKind.wrap .i64 (x1 - x0.f0)).toNat)).map GEntry.t)])]] _ rfl (fun _ => rfl) (fun k => by kernel_rfl) (AD (Does.tB (T_i_LogOk x0 h0) h1) <| AD (T_i_Log_last x0) <| AD (Does.tB (T_i_inRange x1 x0.f0 (logEnd x0)) h2) <| AD (T_i_LogTerm x0 x1 h0 h3 h4) <| AC h5 <| AV (ψ := fun _ => 0 ≤ (IntKind.wrap .i64 (x1 - x0.f0)) ∧ (IntKind.wrap .i64 (x1 - x0.f0)) ≤ ((x0.f2.map GEntry.t).length : Int) ∧ ((x0.f2.map GEntry.t).length : Int) ≤ ((x0.f2.map GEntry.t).length : Int)) (Ev.c (sliceOkN h6)) <| AV (ψ := fun _ => ((x0.f2.map GEntry.t).drop (IntKind.wrap .i64 (x1 - x0.f0)).toNat).take (((x0.f2.map GEntry.t).length : Int).toNat - (IntKind.wrap .i64 (x1 - x0.f0)).toNat) = (x0.f2.drop (IntKind.wrap .i64 (x1 - x0.f0)).toNat).map GEntry.t) (Ev.c sliceMapN) <| AD (T_slices_Clone_Entry (x0.f2.drop (IntKind.wrap .i64 (x1 - x0.f0)).toNat) h7) <| AN)
theorem i_LogBehind_P1 (x0 : GLog) (x1 : Int) (x2 : Int) (h0 : Small.sm x0) (h1 : (logOk x0) = true) (h2 : (inRange x1 x0.f0 (logEnd x0)) = true) (h3 : logOk x0 = true) (h4 : inRange x1 x0.f0 (logEnd x0) = true) (h5 : ((logTerm x0 x1) == x2) = false) : Does E 58 [.agg (GLog.t .far x0), .one (tI x1), .one (tI x2)] [(true, GLog.t .own (GLog.mk x1 x2 ([] : List GEntry)))] :=
  Does.path (fn := Try.f58) [rT, .ret [(false, [tI (logEnd x0)])], rT, .ret [(false, [tI (logTerm x0 x1)])], .b false] _ rfl (fun _ => rfl) (fun k => by kernel_rfl) (AD (Does.tB (T_i_LogOk x0 h0) h1) <| AD (T_i_Log_last x0) <| AD (Does.tB (T_i_inRange x1 x0.f0 (logEnd x0)) h2) <| AD (T_i_LogTerm x0 x1 h0 h3 h4) <| AC h5 <| AN)
theorem i_LogBehind_P2 (x0 : GLog) (x1 : Int) (x2 : Int) (h0 : Small.sm x0) (h1 : (logOk x0) = true) (h2 : (inRange x1 x0.f0 (logEnd x0)) = false) : Does E 58 [.agg (GLog.t .far x0), .one (tI x1), .one (tI x2)] [(true, GLog.t .own (GLog.mk x1 x2 ([] : List GEntry)))] :=
  Does.path (fn := Try.f58) [rT, .ret [(false, [tI (logEnd x0)])], rF] _ rfl (fun _ => rfl) (fun k => by kernel_rfl) (AD (Does.tB (T_i_LogOk x0 h0) h1) <| AD (T_i_Log_last x0) <| AD (Does.tB (T_i_inRange x1 x0.f0 (logEnd x0)) h2) <| AN)
theorem i_LogBehind_P3 (x0 : GLog) (x1 : Int) (x2 : Int) (h0 : Small.sm x0) (h1 : (logOk x0) = false) : Does E 58 [.agg (GLog.t .far x0), .one (tI x1), .one (tI x2)] [(true, GLog.t .own (GLog.mk x1 x2 ([] : List GEntry)))] :=
  Does.path (fn := Try.f58) [rF] _ rfl (fun _ => rfl) (fun k => by kernel_rfl) (AD (Does.tB (T_i_LogOk x0 h0) h1) <| AN)
noncomputable def i_LogBehind_F (x0 : GLog) (x1 : Int) (x2 : Int) : Option (GLog) :=
    if Small.sm x0 then cond (logOk x0)
      (cond (inRange x1 x0.f0 (logEnd x0))
        (if logOk x0 = true then if inRange x1 x0.f0 (logEnd x0) = true then cond ((logTerm x0 x1) == x2)
          (if 0 ≤ (IntKind.wrap .i64 (x1 - x0.f0)) ∧ (IntKind.wrap .i64 (x1 - x0.f0)) ≤ (x0.f2.length : Int) ∧ (x0.f2.length : Int) ≤ (x0.f2.length : Int) then if (x0.f2.drop (IntKind.wrap .i64 (x1 - x0.f0)).toNat).length ≤ 1050000 then some ((GLog.mk x1 x2 (id (x0.f2.drop (IntKind.wrap .i64 (x1 - x0.f0)).toNat)))) else none else none)
          (some ((GLog.mk x1 x2 ([] : List GEntry)))) else none else none)
        (some ((GLog.mk x1 x2 ([] : List GEntry)))))
      (some ((GLog.mk x1 x2 ([] : List GEntry)))) else none
theorem i_LogBehind_D (x0 : GLog) (x1 : Int) (x2 : Int) : Ans (i_LogBehind_F x0 x1 x2) (fun r => Does E 58 [.agg (GLog.t .far x0), .one (tI x1), .one (tI x2)] [(true, GLog.t .own r)]) := by
  unfold i_LogBehind_F
  refine Ans.pre (fun h0 => ?_)
  refine Ans.ite (fun h1 => ?_) (fun h1 => ?_)
  · refine Ans.ite (fun h2 => ?_) (fun h2 => ?_)
    · refine Ans.pre (fun h3 => ?_)
      refine Ans.pre (fun h4 => ?_)
      refine Ans.ite (fun h5 => ?_) (fun h5 => ?_)
      · refine Ans.pre (fun h6 => ?_)
        refine Ans.pre (fun h7 => ?_)
        exact Ans.some (i_LogBehind_P0 x0 x1 x2 h0 h1 h2 h3 h4 h5 h6 h7)
      · exact Ans.some (i_LogBehind_P1 x0 x1 x2 h0 h1 h2 h3 h4 h5)
    · exact Ans.some (i_LogBehind_P2 x0 x1 x2 h0 h1 h2)
  · exact Ans.some (i_LogBehind_P3 x0 x1 x2 h0 h1)
theorem T_i_LogBehind (x0 : GLog) (x1 : Int) (x2 : Int) (h : Small.sm x0) : Does E 58 [.agg (GLog.t .far x0), .one (tI x1), .one (tI x2)] [(true, GLog.t .own (logBehind x0 x1 x2))] := by
  exact i_LogBehind_D x0 x1 x2 _ (by
    have hl : Small.sm x0.f2 := h
    have hl2 : x0.f2.length ≤ 1050000 := hl.1
    unfold i_LogBehind_F logBehind
    simp only [h, true_and, if_true]
    cases h1 : logOk x0 with
    | false => rfl
    | true =>
      cases h2 : inRange x1 x0.f0 (logEnd x0) with
      | false => rfl
      | true =>
        obtain ⟨p0, p1, p2, p3⟩ := logOk_in h1
        have r := inRange_in h2
        rw [p2] at r
        have e : IntKind.wrap .i64 (x1 - x0.f0) = x1 - x0.f0 := wrap_id _ (by omega) (by omega)
        have hd : (x0.f2.drop (x1 - x0.f0).toNat).length ≤ 1050000 := by rw [List.length_drop]; omega
        simp only [cond_true, if_true, e, Bool.true_and]
        rw [if_pos (by omega)]
        simp only [hd, if_true]
        cases logTerm x0 x1 == x2 <;> rfl)
theorem i_copyLog_P0 (x0 : GLog) (h0 : x0.f2.length ≤ 1050000) : Does E 131 [.agg (GLog.t .far x0)] [(true, GLog.t .own (GLog.mk x0.f0 x0.f1 (id x0.f2)))] :=
  Does.path (fn := Try.f131) [.ret [(false, [.s .own () 3 ((id x0.f2).map GEntry.t)])]] _ rfl (fun _ => rfl) (fun k => by kernel_rfl) (AD (T_slices_Clone_Entry x0.f2 h0) <| AN)
noncomputable def i_copyLog_F (x0 : GLog) : Option (GLog) :=
    if x0.f2.length ≤ 1050000 then some ((GLog.mk x0.f0 x0.f1 (id x0.f2))) else none
theorem i_copyLog_D (x0 : GLog) : Ans (i_copyLog_F x0) (fun r => Does E 131 [.agg (GLog.t .far x0)] [(true, GLog.t .own r)]) := by
  unfold i_copyLog_F
  refine Ans.pre (fun h0 => ?_)
  exact Ans.some (i_copyLog_P0 x0 h0)
theorem T_i_copyLog (x0 : GLog) (h : Small.sm x0) : Does E 131 [.agg (GLog.t .far x0)] [(true, GLog.t .own (id x0))] := by
  exact i_copyLog_D x0 _ (by
    have h1 : x0.f2.length ≤ 1050000 := (show Small.sm x0.f2 from h).1
    unfold i_copyLog_F
    simp only [h1, if_true, id])
theorem i_copyNode_P0 (x0 : GNode) (h0 : x0.f5.length ≤ 1050000) (h1 : Small.sm x0.f6) (h2 : x0.f10.length ≤ 1050000) (h3 : x0.f11.length ≤ 1050000) : Does E 94 [.agg (GNode.t .far x0)] [(true, GNode.t .own (GNode.mk x0.f0 x0.f1 x0.f2 x0.f3 x0.f4 (id x0.f5) (id x0.f6) x0.f7 x0.f8 x0.f9 (id x0.f10) (id x0.f11)))] :=
  Does.path (fn := Try.f94) [.ret [(false, [.s .own () 1 ((id x0.f5).map etI)])], .ret [(true, GLog.t .own (id x0.f6))], .ret [(false, [.s .own () 1 ((id x0.f10).map etI)])], .ret [(false, [.s .own () 4 ((id x0.f11).map GPeer.t)])]] _ rfl (fun _ => rfl) (fun k => by kernel_rfl) (AD (T_slices_Clone_int x0.f5 h0) <| AD (T_i_copyLog x0.f6 h1) <| AD (T_slices_Clone_int x0.f10 h2) <| AD (T_slices_Clone_Peer x0.f11 h3) <| AN)
noncomputable def i_copyNode_F (x0 : GNode) : Option (GNode) :=
    if x0.f5.length ≤ 1050000 then if Small.sm x0.f6 then if x0.f10.length ≤ 1050000 then if x0.f11.length ≤ 1050000 then some ((GNode.mk x0.f0 x0.f1 x0.f2 x0.f3 x0.f4 (id x0.f5) (id x0.f6) x0.f7 x0.f8 x0.f9 (id x0.f10) (id x0.f11))) else none else none else none else none
theorem i_copyNode_D (x0 : GNode) : Ans (i_copyNode_F x0) (fun r => Does E 94 [.agg (GNode.t .far x0)] [(true, GNode.t .own r)]) := by
  unfold i_copyNode_F
  refine Ans.pre (fun h0 => ?_)
  refine Ans.pre (fun h1 => ?_)
  refine Ans.pre (fun h2 => ?_)
  refine Ans.pre (fun h3 => ?_)
  exact Ans.some (i_copyNode_P0 x0 h0 h1 h2 h3)
theorem T_i_copyNode (x0 : GNode) (h : Small.sm x0) : Does E 94 [.agg (GNode.t .far x0)] [(true, GNode.t .own (id x0))] := by
  exact i_copyNode_D x0 _ (by
    have h1 : x0.f5.length ≤ 1050000 := h.1.1
    have h2 : Small.sm x0.f6 := h.2.1
    have h3 : x0.f10.length ≤ 1050000 := h.2.2.1.1
    have h4 : x0.f11.length ≤ 1050000 := h.2.2.2.1
    have h5 : x0.f6.f2.length ≤ 1050000 := (show Small.sm x0.f6.f2 from h2).1
    unfold i_copyNode_F
    simp only [h1, h2, h3, h4, if_true, id])
theorem s_l19Copy_P0 (x0 : GNode) (h0 : (([] : List Int).length + x0.f5.length) * 8 ≤ 140737488355328 ∧ ([] : List Int).length + x0.f5.length ≤ 4611686018427387904) (h1 : (([] : List GEntry).length + x0.f6.f2.length) * 32 ≤ 140737488355328 ∧ ([] : List GEntry).length + x0.f6.f2.length ≤ 4611686018427387904) (h2 : (([] : List Int).length + x0.f10.length) * 8 ≤ 140737488355328 ∧ ([] : List Int).length + x0.f10.length ≤ 4611686018427387904) (h3 : (([] : List GPeer).length + x0.f11.length) * 32 ≤ 140737488355328 ∧ ([] : List GPeer).length + x0.f11.length ≤ 4611686018427387904) : Does E 91 [.agg (GNode.t .far x0)] [(true, GNode.t .own (GNode.mk x0.f0 x0.f1 x0.f2 x0.f3 x0.f4 (([] : List Int) ++ x0.f5) (GLog.mk x0.f6.f0 x0.f6.f1 (([] : List GEntry) ++ x0.f6.f2)) x0.f7 x0.f8 x0.f9 (([] : List Int) ++ x0.f10) (([] : List GPeer) ++ x0.f11)))] :=
  Does.path (fn := Try.f91) [.rows ((([] : List Int) ++ x0.f5).map etI), .rows ((([] : List GEntry) ++ x0.f6.f2).map GEntry.t), .rows ((([] : List Int) ++ x0.f10).map etI), .rows ((([] : List GPeer) ++ x0.f11).map GPeer.t)] _ rfl (fun _ => rfl) (fun k => by kernel_rfl) (AV (ψ := fun _ => (x0.f5.map etI).all (fun r => r.all T.flat) = true ∧ ((([] : List Int).map etI).length + (x0.f5.map etI).length) * 8 ≤ 140737488355328 ∧ (([] : List Int).map etI).length + (x0.f5.map etI).length ≤ 4611686018427387904) (Ev.c (by exact appOk (fun x => rfl) h0)) <| AV (ψ := fun _ => (([] : List Int).map etI) ++ (x0.f5.map etI) = (([] : List Int) ++ x0.f5).map etI) (Ev.c (by exact appMap)) <| AV (ψ := fun _ => (x0.f6.f2.map GEntry.t).all (fun r => r.all T.flat) = true ∧ ((([] : List GEntry).map GEntry.t).length + (x0.f6.f2.map GEntry.t).length) * 32 ≤ 140737488355328 ∧ (([] : List GEntry).map GEntry.t).length + (x0.f6.f2.map GEntry.t).length ≤ 4611686018427387904) (Ev.c (by exact appOk (fun x => rfl) h1)) <| AV (ψ := fun _ => (([] : List GEntry).map GEntry.t) ++ (x0.f6.f2.map GEntry.t) = (([] : List GEntry) ++ x0.f6.f2).map GEntry.t) (Ev.c (by exact appMap)) <| AV (ψ := fun _ => (x0.f10.map etI).all (fun r => r.all T.flat) = true ∧ ((([] : List Int).map etI).length + (x0.f10.map etI).length) * 8 ≤ 140737488355328 ∧ (([] : List Int).map etI).length + (x0.f10.map etI).length ≤ 4611686018427387904) (Ev.c (by exact appOk (fun x => rfl) h2)) <| AV (ψ := fun _ => (([] : List Int).map etI) ++ (x0.f10.map etI) = (([] : List Int) ++ x0.f10).map etI) (Ev.c (by exact appMap)) <| AV (ψ := fun _ => (x0.f11.map GPeer.t).all (fun r => r.all T.flat) = true ∧ ((([] : List GPeer).map GPeer.t).length + (x0.f11.map GPeer.t).length) * 32 ≤ 140737488355328 ∧ (([] : List GPeer).map GPeer.t).length + (x0.f11.map GPeer.t).length ≤ 4611686018427387904) (Ev.c (by exact appOk (fun x => rfl) h3)) <| AV (ψ := fun _ => (([] : List GPeer).map GPeer.t) ++ (x0.f11.map GPeer.t) = (([] : List GPeer) ++ x0.f11).map GPeer.t) (Ev.c (by exact appMap)) <| AN)
noncomputable def s_l19Copy_F (x0 : GNode) : Option (GNode) :=
    if (([] : List Int).length + x0.f5.length) * 8 ≤ 140737488355328 ∧ ([] : List Int).length + x0.f5.length ≤ 4611686018427387904 then if (([] : List GEntry).length + x0.f6.f2.length) * 32 ≤ 140737488355328 ∧ ([] : List GEntry).length + x0.f6.f2.length ≤ 4611686018427387904 then if (([] : List Int).length + x0.f10.length) * 8 ≤ 140737488355328 ∧ ([] : List Int).length + x0.f10.length ≤ 4611686018427387904 then if (([] : List GPeer).length + x0.f11.length) * 32 ≤ 140737488355328 ∧ ([] : List GPeer).length + x0.f11.length ≤ 4611686018427387904 then some ((GNode.mk x0.f0 x0.f1 x0.f2 x0.f3 x0.f4 (([] : List Int) ++ x0.f5) (GLog.mk x0.f6.f0 x0.f6.f1 (([] : List GEntry) ++ x0.f6.f2)) x0.f7 x0.f8 x0.f9 (([] : List Int) ++ x0.f10) (([] : List GPeer) ++ x0.f11))) else none else none else none else none
theorem s_l19Copy_D (x0 : GNode) : Ans (s_l19Copy_F x0) (fun r => Does E 91 [.agg (GNode.t .far x0)] [(true, GNode.t .own r)]) := by
  unfold s_l19Copy_F
  refine Ans.pre (fun h0 => ?_)
  refine Ans.pre (fun h1 => ?_)
  refine Ans.pre (fun h2 => ?_)
  refine Ans.pre (fun h3 => ?_)
  exact Ans.some (s_l19Copy_P0 x0 h0 h1 h2 h3)
theorem T_s_l19Copy (x0 : GNode) (h : Small.sm x0) : Does E 91 [.agg (GNode.t .far x0)] [(true, GNode.t .own (id x0))] := by
  exact s_l19Copy_D x0 _ (by
    have h1 : x0.f5.length ≤ 1050000 := h.1.1
    have h2 : Small.sm x0.f6 := h.2.1
    have h3 : x0.f10.length ≤ 1050000 := h.2.2.1.1
    have h4 : x0.f11.length ≤ 1050000 := h.2.2.2.1
    have h5 : x0.f6.f2.length ≤ 1050000 := (show Small.sm x0.f6.f2 from h2).1
    unfold s_l19Copy_F
    repeat rw [if_pos (by simp only [List.length_nil]; omega)]
    simp only [List.nil_append, id])
noncomputable def settle (n : GNode) (i : Int) : GNode × Bool := cond (nodeOk n && inRange i n.f6.f0 n.f7) (⟨n.f0, n.f1, n.f2, n.f3, n.f4, confAt n i, logBehind n.f6 i (logTerm n.f6 i), n.f7, n.f8, n.f9, n.f10, n.f11⟩, true) ((⟨0, 0, 0, 0, 0, [], ⟨0, 0, []⟩, 0, 0, 0, [], []⟩ : GNode), false)
theorem nodeOk_in {n : GNode} (h : nodeOk n = true) : logOk n.f6 = true ∧ n.f7 ≤ logEnd n.f6 := by
  unfold nodeOk at h
  simp only [Bool.and_eq_true] at h
  have hl : logOk n.f6 = true := by simp_all
  have h7 : inRange n.f7 n.f6.f0 (logLast n.f6).1 = true := by simp_all
  have := inRange_in h7
  obtain ⟨_, _, _, p3⟩ := logOk_in hl
  rw [p3] at this
  exact ⟨hl, this.2⟩
theorem sm_settle {n : GNode} {i : Int} (h : Small.sm n) : Small.sm (settle n i).1 := by
  unfold settle
  cases nodeOk n && inRange i n.f6.f0 n.f7 with
  | true => exact ⟨⟨confF_small _ _ _ h.1.1, fun _ _ => trivial⟩, sm_logBehind h.2.1, h.2.2⟩
  | false => exact ⟨sm_nil, sm_nil, sm_nil, sm_nil⟩
theorem s_Settle_P0 (x0 : GNode) (x1 : Int) (h0 : Small.sm x0) (h1 : (nodeOk x0) = true) (h2 : (inRange x1 x0.f6.f0 x0.f7) = true) (h3 : logOk x0.f6 = true) (h4 : 0 ≤ x1 ∧ x1 ≤ 2000000) (h5 : Small.sm x0.f6) (h6 : inRange x1 x0.f6.f0 (logEnd x0.f6) = true) : Does E 28 [.agg (GNode.t .far x0), .one (tI x1)] [(true, GNode.t .own (GNode.mk ((id x0).f0) ((id x0).f1) ((id x0).f2) ((id x0).f3) ((id x0).f4) (confAt x0 x1) (logBehind x0.f6 x1 (logTerm x0.f6 x1)) ((id x0).f7) ((id x0).f8) ((id x0).f9) ((id x0).f10) ((id x0).f11))), (false, [tB true])] :=
  Does.path (fn := Try.f28) [rT, rT, .ret [(true, GNode.t .own (id x0))], .ret [(false, [.s .own () 1 ((confAt x0 x1).map etI)])], .ret [(false, [tI (logTerm x0.f6 x1)])], .ret [(true, GLog.t .own (logBehind x0.f6 x1 (logTerm x0.f6 x1)))]] _ rfl (fun _ => rfl) (fun k => by kernel_rfl) (AD (Does.tB (T_s_NodeOk x0 h0) h1) <| AD (Does.tB (T_s_l01In x1 x0.f6.f0 x0.f7) h2) <| AD (T_s_l19Copy x0 h0) <| AD (T_s_ConfAt x0 x1 h0 h3 h4) <| AD (T_s_LogTerm x0.f6 x1 h5 h3 h6) <| AD (T_s_LogBehind x0.f6 x1 (logTerm x0.f6 x1) h5) <| AN)
theorem s_Settle_P1 (x0 : GNode) (x1 : Int) (h0 : Small.sm x0) (h1 : (nodeOk x0) = true) (h2 : (inRange x1 x0.f6.f0 x0.f7) = false) : Does E 28 [.agg (GNode.t .far x0), .one (tI x1)] [(true, GNode.t .own (GNode.mk (0 : Int) (0 : Int) (0 : Int) (0 : Int) (0 : Int) ([] : List Int) (GLog.mk (0 : Int) (0 : Int) ([] : List GEntry)) (0 : Int) (0 : Int) (0 : Int) ([] : List Int) ([] : List GPeer))), (false, [tB false])] :=
  Does.path (fn := Try.f28) [rT, rF] _ rfl (fun _ => rfl) (fun k => by kernel_rfl) (AD (Does.tB (T_s_NodeOk x0 h0) h1) <| AD (Does.tB (T_s_l01In x1 x0.f6.f0 x0.f7) h2) <| AN)
theorem s_Settle_P2 (x0 : GNode) (x1 : Int) (h0 : Small.sm x0) (h1 : (nodeOk x0) = false) : Does E 28 [.agg (GNode.t .far x0), .one (tI x1)] [(true, GNode.t .own (GNode.mk (0 : Int) (0 : Int) (0 : Int) (0 : Int) (0 : Int) ([] : List Int) (GLog.mk (0 : Int) (0 : Int) ([] : List GEntry)) (0 : Int) (0 : Int) (0 : Int) ([] : List Int) ([] : List GPeer))), (false, [tB false])] :=
  Does.path (fn := Try.f28) [rF] _ rfl (fun _ => rfl) (fun k => by kernel_rfl) (AD (Does.tB (T_s_NodeOk x0 h0) h1) <| AN)
noncomputable def s_Settle_F (x0 : GNode) (x1 : Int) : Option (GNode × Bool) :=
    if Small.sm x0 then cond (nodeOk x0)
      (cond (inRange x1 x0.f6.f0 x0.f7)
        (if logOk x0.f6 = true then if 0 ≤ x1 ∧ x1 ≤ 2000000 then if Small.sm x0.f6 then if inRange x1 x0.f6.f0 (logEnd x0.f6) = true then some ((GNode.mk ((id x0).f0) ((id x0).f1) ((id x0).f2) ((id x0).f3) ((id x0).f4) (confAt x0 x1) (logBehind x0.f6 x1 (logTerm x0.f6 x1)) ((id x0).f7) ((id x0).f8) ((id x0).f9) ((id x0).f10) ((id x0).f11)), true) else none else none else none else none)
        (some ((GNode.mk (0 : Int) (0 : Int) (0 : Int) (0 : Int) (0 : Int) ([] : List Int) (GLog.mk (0 : Int) (0 : Int) ([] : List GEntry)) (0 : Int) (0 : Int) (0 : Int) ([] : List Int) ([] : List GPeer)), false)))
      (some ((GNode.mk (0 : Int) (0 : Int) (0 : Int) (0 : Int) (0 : Int) ([] : List Int) (GLog.mk (0 : Int) (0 : Int) ([] : List GEntry)) (0 : Int) (0 : Int) (0 : Int) ([] : List Int) ([] : List GPeer)), false)) else none
theorem s_Settle_D (x0 : GNode) (x1 : Int) : Ans (s_Settle_F x0 x1) (fun r => Does E 28 [.agg (GNode.t .far x0), .one (tI x1)] [(true, GNode.t .own r.1), (false, [tB r.2])]) := by
  unfold s_Settle_F
  refine Ans.pre (fun h0 => ?_)
  refine Ans.ite (fun h1 => ?_) (fun h1 => ?_)
  · refine Ans.ite (fun h2 => ?_) (fun h2 => ?_)
    · refine Ans.pre (fun h3 => ?_)
      refine Ans.pre (fun h4 => ?_)
      refine Ans.pre (fun h5 => ?_)
      refine Ans.pre (fun h6 => ?_)
      exact Ans.some (s_Settle_P0 x0 x1 h0 h1 h2 h3 h4 h5 h6)
    · exact Ans.some (s_Settle_P1 x0 x1 h0 h1 h2)
  · exact Ans.some (s_Settle_P2 x0 x1 h0 h1)
theorem T_s_Settle (x0 : GNode) (x1 : Int) (h : Small.sm x0) : Does E 28 [.agg (GNode.t .far x0), .one (tI x1)] [(true, GNode.t .own ((settle x0 x1).1)), (false, [tB ((settle x0 x1).2)])] := by
  exact s_Settle_D x0 x1 _ (by
    have hl : Small.sm x0.f6 := h.2.1
    unfold s_Settle_F settle
    simp only [h, if_true]
    cases h1 : nodeOk x0 with
    | false => rfl
    | true =>
      cases h2 : inRange x1 x0.f6.f0 x0.f7 with
      | false => rfl
      | true =>
        obtain ⟨q1, q2⟩ := nodeOk_in h1
        obtain ⟨p0, p1, p2, p3⟩ := logOk_in q1
        have r := inRange_in h2
        have r2 : inRange x1 x0.f6.f0 (logEnd x0.f6) = true := by unfold inRange; simp only [Bool.and_eq_true, decide_eq_true_eq]; omega
        have r3 : 0 ≤ x1 ∧ x1 ≤ 2000000 := by omega
        simp only [hl, q1, r2, r3, and_self, if_true, cond_true, id, Bool.and_self])
theorem i_Settle_P0 (x0 : GNode) (x1 : Int) (h0 : Small.sm x0) (h1 : (nodeOk x0) = true) (h2 : (inRange x1 x0.f6.f0 x0.f7) = true) (h3 : logOk x0.f6 = true) (h4 : 0 ≤ x1 ∧ x1 ≤ 2000000) (h5 : Small.sm x0.f6) (h6 : inRange x1 x0.f6.f0 (logEnd x0.f6) = true) : Does E 29 [.agg (GNode.t .far x0), .one (tI x1)] [(true, GNode.t .own (GNode.mk ((id x0).f0) ((id x0).f1) ((id x0).f2) ((id x0).f3) ((id x0).f4) (confAt x0 x1) (logBehind x0.f6 x1 (logTerm x0.f6 x1)) ((id x0).f7) ((id x0).f8) ((id x0).f9) ((id x0).f10) ((id x0).f11))), (false, [tB true])] :=
  Does.path (fn := Try.f29) [rT, rT, .ret [(true, GNode.t .own (id x0))], .ret [(false, [.s .own () 1 ((confAt x0 x1).map etI)])], .ret [(false, [tI (logTerm x0.f6 x1)])], .ret [(true, GLog.t .own (logBehind x0.f6 x1 (logTerm x0.f6 x1)))]] _ rfl (fun _ => rfl) (fun k => by kernel_rfl) (AD (Does.tB (T_i_NodeOk x0 h0) h1) <| AD (Does.tB (T_i_inRange x1 x0.f6.f0 x0.f7) h2) <| AD (T_i_copyNode x0 h0) <| AD (T_i_ConfAt x0 x1 h0 h3 h4) <| AD (T_i_LogTerm x0.f6 x1 h5 h3 h6) <| AD (T_i_LogBehind x0.f6 x1 (logTerm x0.f6 x1) h5) <| AN)
theorem i_Settle_P1 (x0 : GNode) (x1 : Int) (h0 : Small.sm x0) (h1 : (nodeOk x0) = true) (h2 : (inRange x1 x0.f6.f0 x0.f7) = false) : Does E 29 [.agg (GNode.t .far x0), .one (tI x1)] [(true, GNode.t .own (GNode.mk (0 : Int) (0 : Int) (0 : Int) (0 : Int) (0 : Int) ([] : List Int) (GLog.mk (0 : Int) (0 : Int) ([] : List GEntry)) (0 : Int) (0 : Int) (0 : Int) ([] : List Int) ([] : List GPeer))), (false, [tB false])] :=
  Does.path (fn := Try.f29) [rT, rF] _ rfl (fun _ => rfl) (fun k => by kernel_rfl) (AD (Does.tB (T_i_NodeOk x0 h0) h1) <| AD (Does.tB (T_i_inRange x1 x0.f6.f0 x0.f7) h2) <| AN)
theorem i_Settle_P2 (x0 : GNode) (x1 : Int) (h0 : Small.sm x0) (h1 : (nodeOk x0) = false) : Does E 29 [.agg (GNode.t .far x0), .one (tI x1)] [(true, GNode.t .own (GNode.mk (0 : Int) (0 : Int) (0 : Int) (0 : Int) (0 : Int) ([] : List Int) (GLog.mk (0 : Int) (0 : Int) ([] : List GEntry)) (0 : Int) (0 : Int) (0 : Int) ([] : List Int) ([] : List GPeer))), (false, [tB false])] :=
  Does.path (fn := Try.f29) [rF] _ rfl (fun _ => rfl) (fun k => by kernel_rfl) (AD (Does.tB (T_i_NodeOk x0 h0) h1) <| AN)
noncomputable def i_Settle_F (x0 : GNode) (x1 : Int) : Option (GNode × Bool) :=
    if Small.sm x0 then cond (nodeOk x0)
      (cond (inRange x1 x0.f6.f0 x0.f7)
        (if logOk x0.f6 = true then if 0 ≤ x1 ∧ x1 ≤ 2000000 then if Small.sm x0.f6 then if inRange x1 x0.f6.f0 (logEnd x0.f6) = true then some ((GNode.mk ((id x0).f0) ((id x0).f1) ((id x0).f2) ((id x0).f3) ((id x0).f4) (confAt x0 x1) (logBehind x0.f6 x1 (logTerm x0.f6 x1)) ((id x0).f7) ((id x0).f8) ((id x0).f9) ((id x0).f10) ((id x0).f11)), true) else none else none else none else none)
        (some ((GNode.mk (0 : Int) (0 : Int) (0 : Int) (0 : Int) (0 : Int) ([] : List Int) (GLog.mk (0 : Int) (0 : Int) ([] : List GEntry)) (0 : Int) (0 : Int) (0 : Int) ([] : List Int) ([] : List GPeer)), false)))
      (some ((GNode.mk (0 : Int) (0 : Int) (0 : Int) (0 : Int) (0 : Int) ([] : List Int) (GLog.mk (0 : Int) (0 : Int) ([] : List GEntry)) (0 : Int) (0 : Int) (0 : Int) ([] : List Int) ([] : List GPeer)), false)) else none
theorem i_Settle_D (x0 : GNode) (x1 : Int) : Ans (i_Settle_F x0 x1) (fun r => Does E 29 [.agg (GNode.t .far x0), .one (tI x1)] [(true, GNode.t .own r.1), (false, [tB r.2])]) := by
  unfold i_Settle_F
  refine Ans.pre (fun h0 => ?_)
  refine Ans.ite (fun h1 => ?_) (fun h1 => ?_)
  · refine Ans.ite (fun h2 => ?_) (fun h2 => ?_)
    · refine Ans.pre (fun h3 => ?_)
      refine Ans.pre (fun h4 => ?_)
      refine Ans.pre (fun h5 => ?_)
      refine Ans.pre (fun h6 => ?_)
      exact Ans.some (i_Settle_P0 x0 x1 h0 h1 h2 h3 h4 h5 h6)
    · exact Ans.some (i_Settle_P1 x0 x1 h0 h1 h2)
  · exact Ans.some (i_Settle_P2 x0 x1 h0 h1)
theorem T_i_Settle (x0 : GNode) (x1 : Int) (h : Small.sm x0) : Does E 29 [.agg (GNode.t .far x0), .one (tI x1)] [(true, GNode.t .own ((settle x0 x1).1)), (false, [tB ((settle x0 x1).2)])] := by
  exact i_Settle_D x0 x1 _ (by
    have hl : Small.sm x0.f6 := h.2.1
    unfold i_Settle_F settle
    simp only [h, if_true]
    cases h1 : nodeOk x0 with
    | false => rfl
    | true =>
      cases h2 : inRange x1 x0.f6.f0 x0.f7 with
      | false => rfl
      | true =>
        obtain ⟨q1, q2⟩ := nodeOk_in h1
        obtain ⟨p0, p1, p2, p3⟩ := logOk_in q1
        have r := inRange_in h2
        have r2 : inRange x1 x0.f6.f0 (logEnd x0.f6) = true := by unfold inRange; simp only [Bool.and_eq_true, decide_eq_true_eq]; omega
        have r3 : 0 ≤ x1 ∧ x1 ≤ 2000000 := by omega
        simp only [hl, q1, r2, r3, and_self, if_true, cond_true, id, Bool.and_self])
theorem l_FnExactSettle_P0 (x0 : LNode) (x1 : Int) (h0 : Wf.wf x0) (h1 : (decide ((p_l_szNode x0 (1048576 : Int)) < (0 : Int))) = true) : Does E 6 [.agg (LNode.t .far x0), .one (tI x1)] [(false, [tB true])] :=
  Does.path (fn := Try.f6) [.ret [(false, [tI (p_l_szNode x0 (1048576 : Int))])], .b true] _ rfl (fun _ => rfl) (fun k => by kernel_rfl) (AD (T_l_szNode x0 (1048576 : Int) h0) <| AC h1 <| AN)
theorem l_FnExactSettle_P1 (x0 : LNode) (x1 : Int) (h0 : Wf.wf x0) (h1 : (decide ((p_l_szNode x0 (1048576 : Int)) < (0 : Int))) = false) (h2 : Small.sm x0) (h3 : Small.sm (p_l_toNode x0)) (h4 : ((settle (p_l_toNode x0) x1).1) = ((settle (p_l_toNode x0) x1).1)) (h5 : Small.sm ((settle (p_l_toNode x0) x1).1)) (h6 : (yes ((settle (p_l_toNode x0) x1).1) ((settle (p_l_toNode x0) x1).1)) = true) (h7 : (!(((settle (p_l_toNode x0) x1).2) == ((settle (p_l_toNode x0) x1).2))) = true) : Does E 6 [.agg (LNode.t .far x0), .one (tI x1)] [(false, [tB false])] :=
  Does.path (fn := Try.f6) [.ret [(false, [tI (p_l_szNode x0 (1048576 : Int))])], .b false, .ret [(true, GNode.t .own (p_l_toNode x0))], .ret [(true, GNode.t .own ((settle (p_l_toNode x0) x1).1)), (false, [tB ((settle (p_l_toNode x0) x1).2)])], .ret [(true, GNode.t .own (p_l_toNode x0))], .ret [(true, GNode.t .own ((settle (p_l_toNode x0) x1).1)), (false, [tB ((settle (p_l_toNode x0) x1).2)])], rT, .b true] _ rfl (fun _ => rfl) (fun k => by kernel_rfl) (AD (T_l_szNode x0 (1048576 : Int) h0) <| AC h1 <| AD (T_l_toNode x0 h2) <| AD (T_s_Settle (p_l_toNode x0) x1 h3) <| AD (T_l_toNode x0 h2) <| AD (T_i_Settle (p_l_toNode x0) x1 h3) <| AD (Does.tB (T_l_eqNode ((settle (p_l_toNode x0) x1).1) ((settle (p_l_toNode x0) x1).1) h4 h5) h6) <| AC h7 <| AN)
theorem l_FnExactSettle_P2 (x0 : LNode) (x1 : Int) (h0 : Wf.wf x0) (h1 : (decide ((p_l_szNode x0 (1048576 : Int)) < (0 : Int))) = false) (h2 : Small.sm x0) (h3 : Small.sm (p_l_toNode x0)) (h4 : ((settle (p_l_toNode x0) x1).1) = ((settle (p_l_toNode x0) x1).1)) (h5 : Small.sm ((settle (p_l_toNode x0) x1).1)) (h6 : (yes ((settle (p_l_toNode x0) x1).1) ((settle (p_l_toNode x0) x1).1)) = true) (h7 : (!(((settle (p_l_toNode x0) x1).2) == ((settle (p_l_toNode x0) x1).2))) = false) (h8 : (p_l_toNode x0) = (p_l_toNode x0)) (h9 : (yes (p_l_toNode x0) (p_l_toNode x0)) = true) (h10 : l_markNode_F (p_l_toNode x0) (1 : Int) = some (p_l_markNode (p_l_toNode x0) (1 : Int))) (h11 : (decide (((p_l_markNode (p_l_toNode x0) (1 : Int)).2) < (0 : Int))) = true) : Does E 6 [.agg (LNode.t .far x0), .one (tI x1)] [(false, [tB false])] :=
  Does.path (fn := Try.f6) [.ret [(false, [tI (p_l_szNode x0 (1048576 : Int))])], .b false, .ret [(true, GNode.t .own (p_l_toNode x0))], .ret [(true, GNode.t .own ((settle (p_l_toNode x0) x1).1)), (false, [tB ((settle (p_l_toNode x0) x1).2)])], .ret [(true, GNode.t .own (p_l_toNode x0))], .ret [(true, GNode.t .own ((settle (p_l_toNode x0) x1).1)), (false, [tB ((settle (p_l_toNode x0) x1).2)])], rT, .b false, .ret [(true, GNode.t .own (p_l_toNode x0))], rT, .ret [(true, GNode.t .own ((p_l_markNode (p_l_toNode x0) (1 : Int)).1)), (false, [tI ((p_l_markNode (p_l_toNode x0) (1 : Int)).2)])], .b true] _ rfl (fun _ => rfl) (fun k => by kernel_rfl) (AD (T_l_szNode x0 (1048576 : Int) h0) <| AC h1 <| AD (T_l_toNode x0 h2) <| AD (T_s_Settle (p_l_toNode x0) x1 h3) <| AD (T_l_toNode x0 h2) <| AD (T_i_Settle (p_l_toNode x0) x1 h3) <| AD (Does.tB (T_l_eqNode ((settle (p_l_toNode x0) x1).1) ((settle (p_l_toNode x0) x1).1) h4 h5) h6) <| AC h7 <| AD (T_l_toNode x0 h2) <| AD (Does.tB (T_l_eqNode (p_l_toNode x0) (p_l_toNode x0) h8 h3) h9) <| AV (ψ := fun k => E.C k 19 [.agg (GNode.t .own (p_l_toNode x0)), .one (tI (1 : Int))] = some [(true, GNode.t .own ((p_l_markNode (p_l_toNode x0) (1 : Int)).1)), (false, [tI ((p_l_markNode (p_l_toNode x0) (1 : Int)).2)])]) (T_l_markNode (p_l_toNode x0) (1 : Int) h10) <| AC h11 <| AN)
theorem l_FnExactSettle_P3 (x0 : LNode) (x1 : Int) (h0 : Wf.wf x0) (h1 : (decide ((p_l_szNode x0 (1048576 : Int)) < (0 : Int))) = false) (h2 : Small.sm x0) (h3 : Small.sm (p_l_toNode x0)) (h4 : ((settle (p_l_toNode x0) x1).1) = ((settle (p_l_toNode x0) x1).1)) (h5 : Small.sm ((settle (p_l_toNode x0) x1).1)) (h6 : (yes ((settle (p_l_toNode x0) x1).1) ((settle (p_l_toNode x0) x1).1)) = true) (h7 : (!(((settle (p_l_toNode x0) x1).2) == ((settle (p_l_toNode x0) x1).2))) = false) (h8 : (p_l_toNode x0) = (p_l_toNode x0)) (h9 : (yes (p_l_toNode x0) (p_l_toNode x0)) = true) (h10 : l_markNode_F (p_l_toNode x0) (1 : Int) = some (p_l_markNode (p_l_toNode x0) (1 : Int))) (h11 : (decide (((p_l_markNode (p_l_toNode x0) (1 : Int)).2) < (0 : Int))) = false) (h12 : l_markNode_F ((settle (p_l_toNode x0) x1).1) (1 : Int) = some (p_l_markNode ((settle (p_l_toNode x0) x1).1) (1 : Int))) (h13 : l_heldNode_F (GNode.mk (((settle (p_l_toNode x0) x1).1).f0) (((settle (p_l_toNode x0) x1).1).f1) (((settle (p_l_toNode x0) x1).1).f2) (((settle (p_l_toNode x0) x1).1).f3) (((settle (p_l_toNode x0) x1).1).f4) (((p_l_markNode ((settle (p_l_toNode x0) x1).1) (1 : Int)).1).f5) (GLog.mk ((((settle (p_l_toNode x0) x1).1).f6).f0) ((((settle (p_l_toNode x0) x1).1).f6).f1) ((((p_l_markNode ((settle (p_l_toNode x0) x1).1) (1 : Int)).1).f6).f2)) (((settle (p_l_toNode x0) x1).1).f7) (((settle (p_l_toNode x0) x1).1).f8) (((settle (p_l_toNode x0) x1).1).f9) (((p_l_markNode ((settle (p_l_toNode x0) x1).1) (1 : Int)).1).f10) (((p_l_markNode ((settle (p_l_toNode x0) x1).1) (1 : Int)).1).f11)) (1 : Int) = some (p_l_heldNode (GNode.mk (((settle (p_l_toNode x0) x1).1).f0) (((settle (p_l_toNode x0) x1).1).f1) (((settle (p_l_toNode x0) x1).1).f2) (((settle (p_l_toNode x0) x1).1).f3) (((settle (p_l_toNode x0) x1).1).f4) (((p_l_markNode ((settle (p_l_toNode x0) x1).1) (1 : Int)).1).f5) (GLog.mk ((((settle (p_l_toNode x0) x1).1).f6).f0) ((((settle (p_l_toNode x0) x1).1).f6).f1) ((((p_l_markNode ((settle (p_l_toNode x0) x1).1) (1 : Int)).1).f6).f2)) (((settle (p_l_toNode x0) x1).1).f7) (((settle (p_l_toNode x0) x1).1).f8) (((settle (p_l_toNode x0) x1).1).f9) (((p_l_markNode ((settle (p_l_toNode x0) x1).1) (1 : Int)).1).f10) (((p_l_markNode ((settle (p_l_toNode x0) x1).1) (1 : Int)).1).f11)) (1 : Int))) (h14 : (decide ((p_l_heldNode (GNode.mk (((settle (p_l_toNode x0) x1).1).f0) (((settle (p_l_toNode x0) x1).1).f1) (((settle (p_l_toNode x0) x1).1).f2) (((settle (p_l_toNode x0) x1).1).f3) (((settle (p_l_toNode x0) x1).1).f4) (((p_l_markNode ((settle (p_l_toNode x0) x1).1) (1 : Int)).1).f5) (GLog.mk ((((settle (p_l_toNode x0) x1).1).f6).f0) ((((settle (p_l_toNode x0) x1).1).f6).f1) ((((p_l_markNode ((settle (p_l_toNode x0) x1).1) (1 : Int)).1).f6).f2)) (((settle (p_l_toNode x0) x1).1).f7) (((settle (p_l_toNode x0) x1).1).f8) (((settle (p_l_toNode x0) x1).1).f9) (((p_l_markNode ((settle (p_l_toNode x0) x1).1) (1 : Int)).1).f10) (((p_l_markNode ((settle (p_l_toNode x0) x1).1) (1 : Int)).1).f11)) (1 : Int)) < (0 : Int))) = true) : Does E 6 [.agg (LNode.t .far x0), .one (tI x1)] [(false, [tB false])] :=
  Does.path (fn := Try.f6) [.ret [(false, [tI (p_l_szNode x0 (1048576 : Int))])], .b false, .ret [(true, GNode.t .own (p_l_toNode x0))], .ret [(true, GNode.t .own ((settle (p_l_toNode x0) x1).1)), (false, [tB ((settle (p_l_toNode x0) x1).2)])], .ret [(true, GNode.t .own (p_l_toNode x0))], .ret [(true, GNode.t .own ((settle (p_l_toNode x0) x1).1)), (false, [tB ((settle (p_l_toNode x0) x1).2)])], rT, .b false, .ret [(true, GNode.t .own (p_l_toNode x0))], rT, .ret [(true, GNode.t .own ((p_l_markNode (p_l_toNode x0) (1 : Int)).1)), (false, [tI ((p_l_markNode (p_l_toNode x0) (1 : Int)).2)])], .b false, rT, .b false, .ret [(true, GNode.t .own ((p_l_markNode ((settle (p_l_toNode x0) x1).1) (1 : Int)).1)), (false, [tI ((p_l_markNode ((settle (p_l_toNode x0) x1).1) (1 : Int)).2)])], .ret [(false, [tI (p_l_heldNode (GNode.mk (((settle (p_l_toNode x0) x1).1).f0) (((settle (p_l_toNode x0) x1).1).f1) (((settle (p_l_toNode x0) x1).1).f2) (((settle (p_l_toNode x0) x1).1).f3) (((settle (p_l_toNode x0) x1).1).f4) (((p_l_markNode ((settle (p_l_toNode x0) x1).1) (1 : Int)).1).f5) (GLog.mk ((((settle (p_l_toNode x0) x1).1).f6).f0) ((((settle (p_l_toNode x0) x1).1).f6).f1) ((((p_l_markNode ((settle (p_l_toNode x0) x1).1) (1 : Int)).1).f6).f2)) (((settle (p_l_toNode x0) x1).1).f7) (((settle (p_l_toNode x0) x1).1).f8) (((settle (p_l_toNode x0) x1).1).f9) (((p_l_markNode ((settle (p_l_toNode x0) x1).1) (1 : Int)).1).f10) (((p_l_markNode ((settle (p_l_toNode x0) x1).1) (1 : Int)).1).f11)) (1 : Int))])], .b true] _ rfl (fun _ => rfl) (fun k => by kernel_rfl) (AD (T_l_szNode x0 (1048576 : Int) h0) <| AC h1 <| AD (T_l_toNode x0 h2) <| AD (T_s_Settle (p_l_toNode x0) x1 h3) <| AD (T_l_toNode x0 h2) <| AD (T_i_Settle (p_l_toNode x0) x1 h3) <| AD (Does.tB (T_l_eqNode ((settle (p_l_toNode x0) x1).1) ((settle (p_l_toNode x0) x1).1) h4 h5) h6) <| AC h7 <| AD (T_l_toNode x0 h2) <| AD (Does.tB (T_l_eqNode (p_l_toNode x0) (p_l_toNode x0) h8 h3) h9) <| AV (ψ := fun k => E.C k 19 [.agg (GNode.t .own (p_l_toNode x0)), .one (tI (1 : Int))] = some [(true, GNode.t .own ((p_l_markNode (p_l_toNode x0) (1 : Int)).1)), (false, [tI ((p_l_markNode (p_l_toNode x0) (1 : Int)).2)])]) (T_l_markNode (p_l_toNode x0) (1 : Int) h10) <| AC h11 <| AD (Does.tB (T_l_eqNode ((settle (p_l_toNode x0) x1).1) ((settle (p_l_toNode x0) x1).1) h4 h5) h6) <| AC h7 <| AV (ψ := fun k => E.C k 19 [.agg (GNode.t .own ((settle (p_l_toNode x0) x1).1)), .one (tI (1 : Int))] = some [(true, GNode.t .own ((p_l_markNode ((settle (p_l_toNode x0) x1).1) (1 : Int)).1)), (false, [tI ((p_l_markNode ((settle (p_l_toNode x0) x1).1) (1 : Int)).2)])]) (T_l_markNode ((settle (p_l_toNode x0) x1).1) (1 : Int) h12) <| AD (T_l_heldNode (GNode.mk (((settle (p_l_toNode x0) x1).1).f0) (((settle (p_l_toNode x0) x1).1).f1) (((settle (p_l_toNode x0) x1).1).f2) (((settle (p_l_toNode x0) x1).1).f3) (((settle (p_l_toNode x0) x1).1).f4) (((p_l_markNode ((settle (p_l_toNode x0) x1).1) (1 : Int)).1).f5) (GLog.mk ((((settle (p_l_toNode x0) x1).1).f6).f0) ((((settle (p_l_toNode x0) x1).1).f6).f1) ((((p_l_markNode ((settle (p_l_toNode x0) x1).1) (1 : Int)).1).f6).f2)) (((settle (p_l_toNode x0) x1).1).f7) (((settle (p_l_toNode x0) x1).1).f8) (((settle (p_l_toNode x0) x1).1).f9) (((p_l_markNode ((settle (p_l_toNode x0) x1).1) (1 : Int)).1).f10) (((p_l_markNode ((settle (p_l_toNode x0) x1).1) (1 : Int)).1).f11)) (1 : Int) h13) <| AC h14 <| AN)
theorem l_FnExactSettle_P4 (x0 : LNode) (x1 : Int) (h0 : Wf.wf x0) (h1 : (decide ((p_l_szNode x0 (1048576 : Int)) < (0 : Int))) = false) (h2 : Small.sm x0) (h3 : Small.sm (p_l_toNode x0)) (h4 : ((settle (p_l_toNode x0) x1).1) = ((settle (p_l_toNode x0) x1).1)) (h5 : Small.sm ((settle (p_l_toNode x0) x1).1)) (h6 : (yes ((settle (p_l_toNode x0) x1).1) ((settle (p_l_toNode x0) x1).1)) = true) (h7 : (!(((settle (p_l_toNode x0) x1).2) == ((settle (p_l_toNode x0) x1).2))) = false) (h8 : (p_l_toNode x0) = (p_l_toNode x0)) (h9 : (yes (p_l_toNode x0) (p_l_toNode x0)) = true) (h10 : l_markNode_F (p_l_toNode x0) (1 : Int) = some (p_l_markNode (p_l_toNode x0) (1 : Int))) (h11 : (decide (((p_l_markNode (p_l_toNode x0) (1 : Int)).2) < (0 : Int))) = false) (h12 : l_markNode_F ((settle (p_l_toNode x0) x1).1) (1 : Int) = some (p_l_markNode ((settle (p_l_toNode x0) x1).1) (1 : Int))) (h13 : l_heldNode_F (GNode.mk (((settle (p_l_toNode x0) x1).1).f0) (((settle (p_l_toNode x0) x1).1).f1) (((settle (p_l_toNode x0) x1).1).f2) (((settle (p_l_toNode x0) x1).1).f3) (((settle (p_l_toNode x0) x1).1).f4) (((p_l_markNode ((settle (p_l_toNode x0) x1).1) (1 : Int)).1).f5) (GLog.mk ((((settle (p_l_toNode x0) x1).1).f6).f0) ((((settle (p_l_toNode x0) x1).1).f6).f1) ((((p_l_markNode ((settle (p_l_toNode x0) x1).1) (1 : Int)).1).f6).f2)) (((settle (p_l_toNode x0) x1).1).f7) (((settle (p_l_toNode x0) x1).1).f8) (((settle (p_l_toNode x0) x1).1).f9) (((p_l_markNode ((settle (p_l_toNode x0) x1).1) (1 : Int)).1).f10) (((p_l_markNode ((settle (p_l_toNode x0) x1).1) (1 : Int)).1).f11)) (1 : Int) = some (p_l_heldNode (GNode.mk (((settle (p_l_toNode x0) x1).1).f0) (((settle (p_l_toNode x0) x1).1).f1) (((settle (p_l_toNode x0) x1).1).f2) (((settle (p_l_toNode x0) x1).1).f3) (((settle (p_l_toNode x0) x1).1).f4) (((p_l_markNode ((settle (p_l_toNode x0) x1).1) (1 : Int)).1).f5) (GLog.mk ((((settle (p_l_toNode x0) x1).1).f6).f0) ((((settle (p_l_toNode x0) x1).1).f6).f1) ((((p_l_markNode ((settle (p_l_toNode x0) x1).1) (1 : Int)).1).f6).f2)) (((settle (p_l_toNode x0) x1).1).f7) (((settle (p_l_toNode x0) x1).1).f8) (((settle (p_l_toNode x0) x1).1).f9) (((p_l_markNode ((settle (p_l_toNode x0) x1).1) (1 : Int)).1).f10) (((p_l_markNode ((settle (p_l_toNode x0) x1).1) (1 : Int)).1).f11)) (1 : Int))) (h14 : (decide ((p_l_heldNode (GNode.mk (((settle (p_l_toNode x0) x1).1).f0) (((settle (p_l_toNode x0) x1).1).f1) (((settle (p_l_toNode x0) x1).1).f2) (((settle (p_l_toNode x0) x1).1).f3) (((settle (p_l_toNode x0) x1).1).f4) (((p_l_markNode ((settle (p_l_toNode x0) x1).1) (1 : Int)).1).f5) (GLog.mk ((((settle (p_l_toNode x0) x1).1).f6).f0) ((((settle (p_l_toNode x0) x1).1).f6).f1) ((((p_l_markNode ((settle (p_l_toNode x0) x1).1) (1 : Int)).1).f6).f2)) (((settle (p_l_toNode x0) x1).1).f7) (((settle (p_l_toNode x0) x1).1).f8) (((settle (p_l_toNode x0) x1).1).f9) (((p_l_markNode ((settle (p_l_toNode x0) x1).1) (1 : Int)).1).f10) (((p_l_markNode ((settle (p_l_toNode x0) x1).1) (1 : Int)).1).f11)) (1 : Int)) < (0 : Int))) = false) (h15 : ((p_l_heldNode (GNode.mk (((settle (p_l_toNode x0) x1).1).f0) (((settle (p_l_toNode x0) x1).1).f1) (((settle (p_l_toNode x0) x1).1).f2) (((settle (p_l_toNode x0) x1).1).f3) (((settle (p_l_toNode x0) x1).1).f4) (((p_l_markNode ((settle (p_l_toNode x0) x1).1) (1 : Int)).1).f5) (GLog.mk ((((settle (p_l_toNode x0) x1).1).f6).f0) ((((settle (p_l_toNode x0) x1).1).f6).f1) ((((p_l_markNode ((settle (p_l_toNode x0) x1).1) (1 : Int)).1).f6).f2)) (((settle (p_l_toNode x0) x1).1).f7) (((settle (p_l_toNode x0) x1).1).f8) (((settle (p_l_toNode x0) x1).1).f9) (((p_l_markNode ((settle (p_l_toNode x0) x1).1) (1 : Int)).1).f10) (((p_l_markNode ((settle (p_l_toNode x0) x1).1) (1 : Int)).1).f11)) (1 : Int)) != ((p_l_markNode ((settle (p_l_toNode x0) x1).1) (1 : Int)).2)) = true) : Does E 6 [.agg (LNode.t .far x0), .one (tI x1)] [(false, [tB false])] :=
  Does.path (fn := Try.f6) [.ret [(false, [tI (p_l_szNode x0 (1048576 : Int))])], .b false, .ret [(true, GNode.t .own (p_l_toNode x0))], .ret [(true, GNode.t .own ((settle (p_l_toNode x0) x1).1)), (false, [tB ((settle (p_l_toNode x0) x1).2)])], .ret [(true, GNode.t .own (p_l_toNode x0))], .ret [(true, GNode.t .own ((settle (p_l_toNode x0) x1).1)), (false, [tB ((settle (p_l_toNode x0) x1).2)])], rT, .b false, .ret [(true, GNode.t .own (p_l_toNode x0))], rT, .ret [(true, GNode.t .own ((p_l_markNode (p_l_toNode x0) (1 : Int)).1)), (false, [tI ((p_l_markNode (p_l_toNode x0) (1 : Int)).2)])], .b false, rT, .b false, .ret [(true, GNode.t .own ((p_l_markNode ((settle (p_l_toNode x0) x1).1) (1 : Int)).1)), (false, [tI ((p_l_markNode ((settle (p_l_toNode x0) x1).1) (1 : Int)).2)])], .ret [(false, [tI (p_l_heldNode (GNode.mk (((settle (p_l_toNode x0) x1).1).f0) (((settle (p_l_toNode x0) x1).1).f1) (((settle (p_l_toNode x0) x1).1).f2) (((settle (p_l_toNode x0) x1).1).f3) (((settle (p_l_toNode x0) x1).1).f4) (((p_l_markNode ((settle (p_l_toNode x0) x1).1) (1 : Int)).1).f5) (GLog.mk ((((settle (p_l_toNode x0) x1).1).f6).f0) ((((settle (p_l_toNode x0) x1).1).f6).f1) ((((p_l_markNode ((settle (p_l_toNode x0) x1).1) (1 : Int)).1).f6).f2)) (((settle (p_l_toNode x0) x1).1).f7) (((settle (p_l_toNode x0) x1).1).f8) (((settle (p_l_toNode x0) x1).1).f9) (((p_l_markNode ((settle (p_l_toNode x0) x1).1) (1 : Int)).1).f10) (((p_l_markNode ((settle (p_l_toNode x0) x1).1) (1 : Int)).1).f11)) (1 : Int))])], .b false, .b true] _ rfl (fun _ => rfl) (fun k => by kernel_rfl) (AD (T_l_szNode x0 (1048576 : Int) h0) <| AC h1 <| AD (T_l_toNode x0 h2) <| AD (T_s_Settle (p_l_toNode x0) x1 h3) <| AD (T_l_toNode x0 h2) <| AD (T_i_Settle (p_l_toNode x0) x1 h3) <| AD (Does.tB (T_l_eqNode ((settle (p_l_toNode x0) x1).1) ((settle (p_l_toNode x0) x1).1) h4 h5) h6) <| AC h7 <| AD (T_l_toNode x0 h2) <| AD (Does.tB (T_l_eqNode (p_l_toNode x0) (p_l_toNode x0) h8 h3) h9) <| AV (ψ := fun k => E.C k 19 [.agg (GNode.t .own (p_l_toNode x0)), .one (tI (1 : Int))] = some [(true, GNode.t .own ((p_l_markNode (p_l_toNode x0) (1 : Int)).1)), (false, [tI ((p_l_markNode (p_l_toNode x0) (1 : Int)).2)])]) (T_l_markNode (p_l_toNode x0) (1 : Int) h10) <| AC h11 <| AD (Does.tB (T_l_eqNode ((settle (p_l_toNode x0) x1).1) ((settle (p_l_toNode x0) x1).1) h4 h5) h6) <| AC h7 <| AV (ψ := fun k => E.C k 19 [.agg (GNode.t .own ((settle (p_l_toNode x0) x1).1)), .one (tI (1 : Int))] = some [(true, GNode.t .own ((p_l_markNode ((settle (p_l_toNode x0) x1).1) (1 : Int)).1)), (false, [tI ((p_l_markNode ((settle (p_l_toNode x0) x1).1) (1 : Int)).2)])]) (T_l_markNode ((settle (p_l_toNode x0) x1).1) (1 : Int) h12) <| AD (T_l_heldNode (GNode.mk (((settle (p_l_toNode x0) x1).1).f0) (((settle (p_l_toNode x0) x1).1).f1) (((settle (p_l_toNode x0) x1).1).f2) (((settle (p_l_toNode x0) x1).1).f3) (((settle (p_l_toNode x0) x1).1).f4) (((p_l_markNode ((settle (p_l_toNode x0) x1).1) (1 : Int)).1).f5) (GLog.mk ((((settle (p_l_toNode x0) x1).1).f6).f0) ((((settle (p_l_toNode x0) x1).1).f6).f1) ((((p_l_markNode ((settle (p_l_toNode x0) x1).1) (1 : Int)).1).f6).f2)) (((settle (p_l_toNode x0) x1).1).f7) (((settle (p_l_toNode x0) x1).1).f8) (((settle (p_l_toNode x0) x1).1).f9) (((p_l_markNode ((settle (p_l_toNode x0) x1).1) (1 : Int)).1).f10) (((p_l_markNode ((settle (p_l_toNode x0) x1).1) (1 : Int)).1).f11)) (1 : Int) h13) <| AC h14 <| AC h15 <| AN)
theorem l_FnExactSettle_P5 (x0 : LNode) (x1 : Int) (h0 : Wf.wf x0) (h1 : (decide ((p_l_szNode x0 (1048576 : Int)) < (0 : Int))) = false) (h2 : Small.sm x0) (h3 : Small.sm (p_l_toNode x0)) (h4 : ((settle (p_l_toNode x0) x1).1) = ((settle (p_l_toNode x0) x1).1)) (h5 : Small.sm ((settle (p_l_toNode x0) x1).1)) (h6 : (yes ((settle (p_l_toNode x0) x1).1) ((settle (p_l_toNode x0) x1).1)) = true) (h7 : (!(((settle (p_l_toNode x0) x1).2) == ((settle (p_l_toNode x0) x1).2))) = false) (h8 : (p_l_toNode x0) = (p_l_toNode x0)) (h9 : (yes (p_l_toNode x0) (p_l_toNode x0)) = true) (h10 : l_markNode_F (p_l_toNode x0) (1 : Int) = some (p_l_markNode (p_l_toNode x0) (1 : Int))) (h11 : (decide (((p_l_markNode (p_l_toNode x0) (1 : Int)).2) < (0 : Int))) = false) (h12 : l_markNode_F ((settle (p_l_toNode x0) x1).1) (1 : Int) = some (p_l_markNode ((settle (p_l_toNode x0) x1).1) (1 : Int))) (h13 : l_heldNode_F (GNode.mk (((settle (p_l_toNode x0) x1).1).f0) (((settle (p_l_toNode x0) x1).1).f1) (((settle (p_l_toNode x0) x1).1).f2) (((settle (p_l_toNode x0) x1).1).f3) (((settle (p_l_toNode x0) x1).1).f4) (((p_l_markNode ((settle (p_l_toNode x0) x1).1) (1 : Int)).1).f5) (GLog.mk ((((settle (p_l_toNode x0) x1).1).f6).f0) ((((settle (p_l_toNode x0) x1).1).f6).f1) ((((p_l_markNode ((settle (p_l_toNode x0) x1).1) (1 : Int)).1).f6).f2)) (((settle (p_l_toNode x0) x1).1).f7) (((settle (p_l_toNode x0) x1).1).f8) (((settle (p_l_toNode x0) x1).1).f9) (((p_l_markNode ((settle (p_l_toNode x0) x1).1) (1 : Int)).1).f10) (((p_l_markNode ((settle (p_l_toNode x0) x1).1) (1 : Int)).1).f11)) (1 : Int) = some (p_l_heldNode (GNode.mk (((settle (p_l_toNode x0) x1).1).f0) (((settle (p_l_toNode x0) x1).1).f1) (((settle (p_l_toNode x0) x1).1).f2) (((settle (p_l_toNode x0) x1).1).f3) (((settle (p_l_toNode x0) x1).1).f4) (((p_l_markNode ((settle (p_l_toNode x0) x1).1) (1 : Int)).1).f5) (GLog.mk ((((settle (p_l_toNode x0) x1).1).f6).f0) ((((settle (p_l_toNode x0) x1).1).f6).f1) ((((p_l_markNode ((settle (p_l_toNode x0) x1).1) (1 : Int)).1).f6).f2)) (((settle (p_l_toNode x0) x1).1).f7) (((settle (p_l_toNode x0) x1).1).f8) (((settle (p_l_toNode x0) x1).1).f9) (((p_l_markNode ((settle (p_l_toNode x0) x1).1) (1 : Int)).1).f10) (((p_l_markNode ((settle (p_l_toNode x0) x1).1) (1 : Int)).1).f11)) (1 : Int))) (h14 : (decide ((p_l_heldNode (GNode.mk (((settle (p_l_toNode x0) x1).1).f0) (((settle (p_l_toNode x0) x1).1).f1) (((settle (p_l_toNode x0) x1).1).f2) (((settle (p_l_toNode x0) x1).1).f3) (((settle (p_l_toNode x0) x1).1).f4) (((p_l_markNode ((settle (p_l_toNode x0) x1).1) (1 : Int)).1).f5) (GLog.mk ((((settle (p_l_toNode x0) x1).1).f6).f0) ((((settle (p_l_toNode x0) x1).1).f6).f1) ((((p_l_markNode ((settle (p_l_toNode x0) x1).1) (1 : Int)).1).f6).f2)) (((settle (p_l_toNode x0) x1).1).f7) (((settle (p_l_toNode x0) x1).1).f8) (((settle (p_l_toNode x0) x1).1).f9) (((p_l_markNode ((settle (p_l_toNode x0) x1).1) (1 : Int)).1).f10) (((p_l_markNode ((settle (p_l_toNode x0) x1).1) (1 : Int)).1).f11)) (1 : Int)) < (0 : Int))) = false) (h15 : ((p_l_heldNode (GNode.mk (((settle (p_l_toNode x0) x1).1).f0) (((settle (p_l_toNode x0) x1).1).f1) (((settle (p_l_toNode x0) x1).1).f2) (((settle (p_l_toNode x0) x1).1).f3) (((settle (p_l_toNode x0) x1).1).f4) (((p_l_markNode ((settle (p_l_toNode x0) x1).1) (1 : Int)).1).f5) (GLog.mk ((((settle (p_l_toNode x0) x1).1).f6).f0) ((((settle (p_l_toNode x0) x1).1).f6).f1) ((((p_l_markNode ((settle (p_l_toNode x0) x1).1) (1 : Int)).1).f6).f2)) (((settle (p_l_toNode x0) x1).1).f7) (((settle (p_l_toNode x0) x1).1).f8) (((settle (p_l_toNode x0) x1).1).f9) (((p_l_markNode ((settle (p_l_toNode x0) x1).1) (1 : Int)).1).f10) (((p_l_markNode ((settle (p_l_toNode x0) x1).1) (1 : Int)).1).f11)) (1 : Int)) != ((p_l_markNode ((settle (p_l_toNode x0) x1).1) (1 : Int)).2)) = false) : Does E 6 [.agg (LNode.t .far x0), .one (tI x1)] [(false, [tB true])] :=
  Does.path (fn := Try.f6) [.ret [(false, [tI (p_l_szNode x0 (1048576 : Int))])], .b false, .ret [(true, GNode.t .own (p_l_toNode x0))], .ret [(true, GNode.t .own ((settle (p_l_toNode x0) x1).1)), (false, [tB ((settle (p_l_toNode x0) x1).2)])], .ret [(true, GNode.t .own (p_l_toNode x0))], .ret [(true, GNode.t .own ((settle (p_l_toNode x0) x1).1)), (false, [tB ((settle (p_l_toNode x0) x1).2)])], rT, .b false, .ret [(true, GNode.t .own (p_l_toNode x0))], rT, .ret [(true, GNode.t .own ((p_l_markNode (p_l_toNode x0) (1 : Int)).1)), (false, [tI ((p_l_markNode (p_l_toNode x0) (1 : Int)).2)])], .b false, rT, .b false, .ret [(true, GNode.t .own ((p_l_markNode ((settle (p_l_toNode x0) x1).1) (1 : Int)).1)), (false, [tI ((p_l_markNode ((settle (p_l_toNode x0) x1).1) (1 : Int)).2)])], .ret [(false, [tI (p_l_heldNode (GNode.mk (((settle (p_l_toNode x0) x1).1).f0) (((settle (p_l_toNode x0) x1).1).f1) (((settle (p_l_toNode x0) x1).1).f2) (((settle (p_l_toNode x0) x1).1).f3) (((settle (p_l_toNode x0) x1).1).f4) (((p_l_markNode ((settle (p_l_toNode x0) x1).1) (1 : Int)).1).f5) (GLog.mk ((((settle (p_l_toNode x0) x1).1).f6).f0) ((((settle (p_l_toNode x0) x1).1).f6).f1) ((((p_l_markNode ((settle (p_l_toNode x0) x1).1) (1 : Int)).1).f6).f2)) (((settle (p_l_toNode x0) x1).1).f7) (((settle (p_l_toNode x0) x1).1).f8) (((settle (p_l_toNode x0) x1).1).f9) (((p_l_markNode ((settle (p_l_toNode x0) x1).1) (1 : Int)).1).f10) (((p_l_markNode ((settle (p_l_toNode x0) x1).1) (1 : Int)).1).f11)) (1 : Int))])], .b false, .b false, .ret [(true, GNode.t .own (p_l_toNode x0))], .ret [(true, GNode.t .own ((settle (p_l_toNode x0) x1).1)), (false, [tB ((settle (p_l_toNode x0) x1).2)])], rT, .b false, .ret [(false, [tI (p_l_heldNode (GNode.mk (((settle (p_l_toNode x0) x1).1).f0) (((settle (p_l_toNode x0) x1).1).f1) (((settle (p_l_toNode x0) x1).1).f2) (((settle (p_l_toNode x0) x1).1).f3) (((settle (p_l_toNode x0) x1).1).f4) (((p_l_markNode ((settle (p_l_toNode x0) x1).1) (1 : Int)).1).f5) (GLog.mk ((((settle (p_l_toNode x0) x1).1).f6).f0) ((((settle (p_l_toNode x0) x1).1).f6).f1) ((((p_l_markNode ((settle (p_l_toNode x0) x1).1) (1 : Int)).1).f6).f2)) (((settle (p_l_toNode x0) x1).1).f7) (((settle (p_l_toNode x0) x1).1).f8) (((settle (p_l_toNode x0) x1).1).f9) (((p_l_markNode ((settle (p_l_toNode x0) x1).1) (1 : Int)).1).f10) (((p_l_markNode ((settle (p_l_toNode x0) x1).1) (1 : Int)).1).f11)) (1 : Int))])], .b false, .b false] _ rfl (fun _ => rfl) (fun k => by kernel_rfl) (AD (T_l_szNode x0 (1048576 : Int) h0) <| AC h1 <| AD (T_l_toNode x0 h2) <| AD (T_s_Settle (p_l_toNode x0) x1 h3) <| AD (T_l_toNode x0 h2) <| AD (T_i_Settle (p_l_toNode x0) x1 h3) <| AD (Does.tB (T_l_eqNode ((settle (p_l_toNode x0) x1).1) ((settle (p_l_toNode x0) x1).1) h4 h5) h6) <| AC h7 <| AD (T_l_toNode x0 h2) <| AD (Does.tB (T_l_eqNode (p_l_toNode x0) (p_l_toNode x0) h8 h3) h9) <| AV (ψ := fun k => E.C k 19 [.agg (GNode.t .own (p_l_toNode x0)), .one (tI (1 : Int))] = some [(true, GNode.t .own ((p_l_markNode (p_l_toNode x0) (1 : Int)).1)), (false, [tI ((p_l_markNode (p_l_toNode x0) (1 : Int)).2)])]) (T_l_markNode (p_l_toNode x0) (1 : Int) h10) <| AC h11 <| AD (Does.tB (T_l_eqNode ((settle (p_l_toNode x0) x1).1) ((settle (p_l_toNode x0) x1).1) h4 h5) h6) <| AC h7 <| AV (ψ := fun k => E.C k 19 [.agg (GNode.t .own ((settle (p_l_toNode x0) x1).1)), .one (tI (1 : Int))] = some [(true, GNode.t .own ((p_l_markNode ((settle (p_l_toNode x0) x1).1) (1 : Int)).1)), (false, [tI ((p_l_markNode ((settle (p_l_toNode x0) x1).1) (1 : Int)).2)])]) (T_l_markNode ((settle (p_l_toNode x0) x1).1) (1 : Int) h12) <| AD (T_l_heldNode (GNode.mk (((settle (p_l_toNode x0) x1).1).f0) (((settle (p_l_toNode x0) x1).1).f1) (((settle (p_l_toNode x0) x1).1).f2) (((settle (p_l_toNode x0) x1).1).f3) (((settle (p_l_toNode x0) x1).1).f4) (((p_l_markNode ((settle (p_l_toNode x0) x1).1) (1 : Int)).1).f5) (GLog.mk ((((settle (p_l_toNode x0) x1).1).f6).f0) ((((settle (p_l_toNode x0) x1).1).f6).f1) ((((p_l_markNode ((settle (p_l_toNode x0) x1).1) (1 : Int)).1).f6).f2)) (((settle (p_l_toNode x0) x1).1).f7) (((settle (p_l_toNode x0) x1).1).f8) (((settle (p_l_toNode x0) x1).1).f9) (((p_l_markNode ((settle (p_l_toNode x0) x1).1) (1 : Int)).1).f10) (((p_l_markNode ((settle (p_l_toNode x0) x1).1) (1 : Int)).1).f11)) (1 : Int) h13) <| AC h14 <| AC h15 <| AD (T_l_toNode x0 h2) <| AD (T_i_Settle (p_l_toNode x0) x1 h3) <| AD (Does.tB (T_l_eqNode ((settle (p_l_toNode x0) x1).1) ((settle (p_l_toNode x0) x1).1) h4 h5) h6) <| AC h7 <| AD (T_l_heldNode (GNode.mk (((settle (p_l_toNode x0) x1).1).f0) (((settle (p_l_toNode x0) x1).1).f1) (((settle (p_l_toNode x0) x1).1).f2) (((settle (p_l_toNode x0) x1).1).f3) (((settle (p_l_toNode x0) x1).1).f4) (((p_l_markNode ((settle (p_l_toNode x0) x1).1) (1 : Int)).1).f5) (GLog.mk ((((settle (p_l_toNode x0) x1).1).f6).f0) ((((settle (p_l_toNode x0) x1).1).f6).f1) ((((p_l_markNode ((settle (p_l_toNode x0) x1).1) (1 : Int)).1).f6).f2)) (((settle (p_l_toNode x0) x1).1).f7) (((settle (p_l_toNode x0) x1).1).f8) (((settle (p_l_toNode x0) x1).1).f9) (((p_l_markNode ((settle (p_l_toNode x0) x1).1) (1 : Int)).1).f10) (((p_l_markNode ((settle (p_l_toNode x0) x1).1) (1 : Int)).1).f11)) (1 : Int) h13) <| AC h14 <| AC h15 <| AN)
theorem l_FnExactSettle_P6 (x0 : LNode) (x1 : Int) (h0 : Wf.wf x0) (h1 : (decide ((p_l_szNode x0 (1048576 : Int)) < (0 : Int))) = false) (h2 : Small.sm x0) (h3 : Small.sm (p_l_toNode x0)) (h4 : ((settle (p_l_toNode x0) x1).1) = ((settle (p_l_toNode x0) x1).1)) (h5 : Small.sm ((settle (p_l_toNode x0) x1).1)) (h6 : (yes ((settle (p_l_toNode x0) x1).1) ((settle (p_l_toNode x0) x1).1)) = true) (h7 : (!(((settle (p_l_toNode x0) x1).2) == ((settle (p_l_toNode x0) x1).2))) = false) (h8 : (p_l_toNode x0) = (p_l_toNode x0)) (h9 : (yes (p_l_toNode x0) (p_l_toNode x0)) = false) : Does E 6 [.agg (LNode.t .far x0), .one (tI x1)] [(false, [tB false])] :=
  Does.path (fn := Try.f6) [.ret [(false, [tI (p_l_szNode x0 (1048576 : Int))])], .b false, .ret [(true, GNode.t .own (p_l_toNode x0))], .ret [(true, GNode.t .own ((settle (p_l_toNode x0) x1).1)), (false, [tB ((settle (p_l_toNode x0) x1).2)])], .ret [(true, GNode.t .own (p_l_toNode x0))], .ret [(true, GNode.t .own ((settle (p_l_toNode x0) x1).1)), (false, [tB ((settle (p_l_toNode x0) x1).2)])], rT, .b false, .ret [(true, GNode.t .own (p_l_toNode x0))], rF] _ rfl (fun _ => rfl) (fun k => by kernel_rfl) (AD (T_l_szNode x0 (1048576 : Int) h0) <| AC h1 <| AD (T_l_toNode x0 h2) <| AD (T_s_Settle (p_l_toNode x0) x1 h3) <| AD (T_l_toNode x0 h2) <| AD (T_i_Settle (p_l_toNode x0) x1 h3) <| AD (Does.tB (T_l_eqNode ((settle (p_l_toNode x0) x1).1) ((settle (p_l_toNode x0) x1).1) h4 h5) h6) <| AC h7 <| AD (T_l_toNode x0 h2) <| AD (Does.tB (T_l_eqNode (p_l_toNode x0) (p_l_toNode x0) h8 h3) h9) <| AN)
theorem l_FnExactSettle_P7 (x0 : LNode) (x1 : Int) (h0 : Wf.wf x0) (h1 : (decide ((p_l_szNode x0 (1048576 : Int)) < (0 : Int))) = false) (h2 : Small.sm x0) (h3 : Small.sm (p_l_toNode x0)) (h4 : ((settle (p_l_toNode x0) x1).1) = ((settle (p_l_toNode x0) x1).1)) (h5 : Small.sm ((settle (p_l_toNode x0) x1).1)) (h6 : (yes ((settle (p_l_toNode x0) x1).1) ((settle (p_l_toNode x0) x1).1)) = false) : Does E 6 [.agg (LNode.t .far x0), .one (tI x1)] [(false, [tB false])] :=
  Does.path (fn := Try.f6) [.ret [(false, [tI (p_l_szNode x0 (1048576 : Int))])], .b false, .ret [(true, GNode.t .own (p_l_toNode x0))], .ret [(true, GNode.t .own ((settle (p_l_toNode x0) x1).1)), (false, [tB ((settle (p_l_toNode x0) x1).2)])], .ret [(true, GNode.t .own (p_l_toNode x0))], .ret [(true, GNode.t .own ((settle (p_l_toNode x0) x1).1)), (false, [tB ((settle (p_l_toNode x0) x1).2)])], rF] _ rfl (fun _ => rfl) (fun k => by kernel_rfl) (AD (T_l_szNode x0 (1048576 : Int) h0) <| AC h1 <| AD (T_l_toNode x0 h2) <| AD (T_s_Settle (p_l_toNode x0) x1 h3) <| AD (T_l_toNode x0 h2) <| AD (T_i_Settle (p_l_toNode x0) x1 h3) <| AD (Does.tB (T_l_eqNode ((settle (p_l_toNode x0) x1).1) ((settle (p_l_toNode x0) x1).1) h4 h5) h6) <| AN)
noncomputable def l_FnExactSettle_F (x0 : LNode) (x1 : Int) : Option (Bool) :=
    if Wf.wf x0 then cond (decide ((p_l_szNode x0 (1048576 : Int)) < (0 : Int)))
      (some (true))
      (if Small.sm x0 then if Small.sm (p_l_toNode x0) then if ((settle (p_l_toNode x0) x1).1) = ((settle (p_l_toNode x0) x1).1) then if Small.sm ((settle (p_l_toNode x0) x1).1) then cond (yes ((settle (p_l_toNode x0) x1).1) ((settle (p_l_toNode x0) x1).1))
        (cond (!(((settle (p_l_toNode x0) x1).2) == ((settle (p_l_toNode x0) x1).2)))
          (some (false))
          (if (p_l_toNode x0) = (p_l_toNode x0) then cond (yes (p_l_toNode x0) (p_l_toNode x0))
            (if l_markNode_F (p_l_toNode x0) (1 : Int) = some (p_l_markNode (p_l_toNode x0) (1 : Int)) then cond (decide (((p_l_markNode (p_l_toNode x0) (1 : Int)).2) < (0 : Int)))
              (some (false))
              (if l_markNode_F ((settle (p_l_toNode x0) x1).1) (1 : Int) = some (p_l_markNode ((settle (p_l_toNode x0) x1).1) (1 : Int)) then if l_heldNode_F (GNode.mk (((settle (p_l_toNode x0) x1).1).f0) (((settle (p_l_toNode x0) x1).1).f1) (((settle (p_l_toNode x0) x1).1).f2) (((settle (p_l_toNode x0) x1).1).f3) (((settle (p_l_toNode x0) x1).1).f4) (((p_l_markNode ((settle (p_l_toNode x0) x1).1) (1 : Int)).1).f5) (GLog.mk ((((settle (p_l_toNode x0) x1).1).f6).f0) ((((settle (p_l_toNode x0) x1).1).f6).f1) ((((p_l_markNode ((settle (p_l_toNode x0) x1).1) (1 : Int)).1).f6).f2)) (((settle (p_l_toNode x0) x1).1).f7) (((settle (p_l_toNode x0) x1).1).f8) (((settle (p_l_toNode x0) x1).1).f9) (((p_l_markNode ((settle (p_l_toNode x0) x1).1) (1 : Int)).1).f10) (((p_l_markNode ((settle (p_l_toNode x0) x1).1) (1 : Int)).1).f11)) (1 : Int) = some (p_l_heldNode (GNode.mk (((settle (p_l_toNode x0) x1).1).f0) (((settle (p_l_toNode x0) x1).1).f1) (((settle (p_l_toNode x0) x1).1).f2) (((settle (p_l_toNode x0) x1).1).f3) (((settle (p_l_toNode x0) x1).1).f4) (((p_l_markNode ((settle (p_l_toNode x0) x1).1) (1 : Int)).1).f5) (GLog.mk ((((settle (p_l_toNode x0) x1).1).f6).f0) ((((settle (p_l_toNode x0) x1).1).f6).f1) ((((p_l_markNode ((settle (p_l_toNode x0) x1).1) (1 : Int)).1).f6).f2)) (((settle (p_l_toNode x0) x1).1).f7) (((settle (p_l_toNode x0) x1).1).f8) (((settle (p_l_toNode x0) x1).1).f9) (((p_l_markNode ((settle (p_l_toNode x0) x1).1) (1 : Int)).1).f10) (((p_l_markNode ((settle (p_l_toNode x0) x1).1) (1 : Int)).1).f11)) (1 : Int)) then cond (decide ((p_l_heldNode (GNode.mk (((settle (p_l_toNode x0) x1).1).f0) (((settle (p_l_toNode x0) x1).1).f1) (((settle (p_l_toNode x0) x1).1).f2) (((settle (p_l_toNode x0) x1).1).f3) (((settle (p_l_toNode x0) x1).1).f4) (((p_l_markNode ((settle (p_l_toNode x0) x1).1) (1 : Int)).1).f5) (GLog.mk ((((settle (p_l_toNode x0) x1).1).f6).f0) ((((settle (p_l_toNode x0) x1).1).f6).f1) ((((p_l_markNode ((settle (p_l_toNode x0) x1).1) (1 : Int)).1).f6).f2)) (((settle (p_l_toNode x0) x1).1).f7) (((settle (p_l_toNode x0) x1).1).f8) (((settle (p_l_toNode x0) x1).1).f9) (((p_l_markNode ((settle (p_l_toNode x0) x1).1) (1 : Int)).1).f10) (((p_l_markNode ((settle (p_l_toNode x0) x1).1) (1 : Int)).1).f11)) (1 : Int)) < (0 : Int)))
                (some (false))
                (cond ((p_l_heldNode (GNode.mk (((settle (p_l_toNode x0) x1).1).f0) (((settle (p_l_toNode x0) x1).1).f1) (((settle (p_l_toNode x0) x1).1).f2) (((settle (p_l_toNode x0) x1).1).f3) (((settle (p_l_toNode x0) x1).1).f4) (((p_l_markNode ((settle (p_l_toNode x0) x1).1) (1 : Int)).1).f5) (GLog.mk ((((settle (p_l_toNode x0) x1).1).f6).f0) ((((settle (p_l_toNode x0) x1).1).f6).f1) ((((p_l_markNode ((settle (p_l_toNode x0) x1).1) (1 : Int)).1).f6).f2)) (((settle (p_l_toNode x0) x1).1).f7) (((settle (p_l_toNode x0) x1).1).f8) (((settle (p_l_toNode x0) x1).1).f9) (((p_l_markNode ((settle (p_l_toNode x0) x1).1) (1 : Int)).1).f10) (((p_l_markNode ((settle (p_l_toNode x0) x1).1) (1 : Int)).1).f11)) (1 : Int)) != ((p_l_markNode ((settle (p_l_toNode x0) x1).1) (1 : Int)).2))
                  (some (false))
                  (some (true))) else none else none) else none)
            (some (false)) else none))
        (some (false)) else none else none else none else none) else none
theorem l_FnExactSettle_D (x0 : LNode) (x1 : Int) : Ans (l_FnExactSettle_F x0 x1) (fun r => Does E 6 [.agg (LNode.t .far x0), .one (tI x1)] [(false, [tB r])]) := by
  unfold l_FnExactSettle_F
  refine Ans.pre (fun h0 => ?_)
  refine Ans.ite (fun h1 => ?_) (fun h1 => ?_)
  · exact Ans.some (l_FnExactSettle_P0 x0 x1 h0 h1)
  · refine Ans.pre (fun h2 => ?_)
    refine Ans.pre (fun h3 => ?_)
    refine Ans.pre (fun h4 => ?_)
    refine Ans.pre (fun h5 => ?_)
    refine Ans.ite (fun h6 => ?_) (fun h6 => ?_)
    · refine Ans.ite (fun h7 => ?_) (fun h7 => ?_)
      · exact Ans.some (l_FnExactSettle_P1 x0 x1 h0 h1 h2 h3 h4 h5 h6 h7)
      · refine Ans.pre (fun h8 => ?_)
        refine Ans.ite (fun h9 => ?_) (fun h9 => ?_)
        · refine Ans.pre (fun h10 => ?_)
          refine Ans.ite (fun h11 => ?_) (fun h11 => ?_)
          · exact Ans.some (l_FnExactSettle_P2 x0 x1 h0 h1 h2 h3 h4 h5 h6 h7 h8 h9 h10 h11)
          · refine Ans.pre (fun h12 => ?_)
            refine Ans.pre (fun h13 => ?_)
            refine Ans.ite (fun h14 => ?_) (fun h14 => ?_)
            · exact Ans.some (l_FnExactSettle_P3 x0 x1 h0 h1 h2 h3 h4 h5 h6 h7 h8 h9 h10 h11 h12 h13 h14)
            · refine Ans.ite (fun h15 => ?_) (fun h15 => ?_)
              · exact Ans.some (l_FnExactSettle_P4 x0 x1 h0 h1 h2 h3 h4 h5 h6 h7 h8 h9 h10 h11 h12 h13 h14 h15)
              · exact Ans.some (l_FnExactSettle_P5 x0 x1 h0 h1 h2 h3 h4 h5 h6 h7 h8 h9 h10 h11 h12 h13 h14 h15)
        · exact Ans.some (l_FnExactSettle_P6 x0 x1 h0 h1 h2 h3 h4 h5 h6 h7 h8 h9)
    · exact Ans.some (l_FnExactSettle_P7 x0 x1 h0 h1 h2 h3 h4 h5 h6)
theorem T_law_Settle (x0 : LNode) (x1 : Int) (h : Wf.wf x0) : Does E 6 [.agg (LNode.t .far x0), .one (tI x1)] [(false, [tB true])] := by
  have hs := le_l_szNode x0 1048576 h (by omega) (by omega)
  exact l_FnExactSettle_D x0 x1 _ (by
    unfold l_FnExactSettle_F
    refine lawPre h (lawSz fun q => ?_)
    have ht := sm_l_toNode (hs q).2
    have hr : Small.sm (settle (p_l_toNode x0) x1).1 := sm_settle ht
    obtain ⟨a1, a2, a3, a4, a5, a6, a7⟩ := ok_l_markNode (p_l_toNode x0) 1 ht (by omega) (by omega)
    obtain ⟨b1, b2, b3, b4, b5, b6, b7⟩ := ok_l_markNode (settle (p_l_toNode x0) x1).1 1 hr (by omega) (by omega)
    have ha : decide ((p_l_markNode (p_l_toNode x0) 1).2 < (0 : Int)) = false := decide_eq_false (by omega)
    have hb : decide ((p_l_markNode (settle (p_l_toNode x0) x1).1 1).2 < (0 : Int)) = false := decide_eq_false (by omega)
    simp [(hs q).2, ht, hr, yes, a1, b1, b2, b3, b7, ha, hb])
end Go.Proofs.Ytgpllfmogdpapaa.Am
namespace Go.Proofs.Ytgpllfmogdpapaa.fnExactSettle
open Go.ChangeShapes Go.WideShapes Go.ChangeAt Go.RowKit Go.Proofs.Ytgpllfmogdpapaa.Am
open Go.ChangeMaps (open_string shut_string)
set_option linter.unusedVariables false
set_option linter.unusedSimpArgs false
theorem own : ownKnob Try.prog.godebug = none := by kernel_rfl
theorem laid : laidOutB Try.prog = true := by kernel_rfl
theorem rowsOpen {α : Type} {enc : α → List (T Unit)} {B : α → Prop} : ∀ (rows : List (List DT)), (∀ r ∈ rows, ∃ x, erL r = enc x ∧ B x) → ∃ l : List α, rows.map erL = l.map enc ∧ l.length = rows.length ∧ ∀ y ∈ l, B y
  | [], _ => ⟨[], rfl, rfl, fun y h => by cases h⟩
  | r :: rs, h => by
    obtain ⟨x, h1, h2⟩ := h r (by simp)
    obtain ⟨l, g1, g2, g3⟩ := rowsOpen rs fun q hq => h q (by simp [hq])
    refine ⟨x :: l, by simp only [List.map_cons, h1, g1], by simp [g2], fun y hy => ?_⟩
    rcases List.mem_cons.1 hy with rfl | hy
    · exact h2
    · exact g3 y hy
def ty_GEntry : Ty := (.struct (.cons (.int .i64) (.cons (.int .i64) (.cons .str .nil))))
theorem open_GEntry {ts : List DT} (h : Shape ty_GEntry ts) : ∃ x : GEntry, erL ts = GEntry.t x ∧ Wf.wf x := by
  simp only [ty_GEntry, Shape, ShapeF] at h
  obtain ⟨xs0, ys0, rfl, s0, xs1, ys1, rfl, s1, xs2, ys2, rfl, s2, rfl⟩ := h
  obtain ⟨v0, rfl, k0⟩ := s0
  obtain ⟨v1, rfl, k1⟩ := s1
  obtain ⟨v2, rfl, k2⟩ := s2
  refine ⟨⟨v0, v1, v2⟩, ?_, k2⟩
  simp only [List.map_append, List.map_cons, List.map_nil, erL, er_s, er_v]
  rfl
def ty_LLog : Ty := (.struct (.cons (.int .i64) (.cons (.int .i64) (.cons (.slice (.struct (.cons (.int .i64) (.cons (.int .i64) (.cons .str .nil))))) .nil))))
theorem open_LLog {ts : List DT} (h : Shape ty_LLog ts) : ∃ x : LLog, erL ts = LLog.t .far x ∧ Wf.wf x := by
  simp only [ty_LLog, Shape, ShapeF] at h
  obtain ⟨xs0, ys0, rfl, s0, xs1, ys1, rfl, s1, xs2, ys2, rfl, s2, rfl⟩ := h
  obtain ⟨v0, rfl, k0⟩ := s0
  obtain ⟨v1, rfl, k1⟩ := s1
  obtain ⟨d2, r2, rfl, k2, a2⟩ := s2
  obtain ⟨v2, e2, b2, c2⟩ := rowsOpen (enc := GEntry.t) (B := Wf.wf) r2 (fun r hr => open_GEntry (by simp only [ty_GEntry, Shape, ShapeF]; exact a2 r hr))
  refine ⟨⟨v0, v1, v2⟩, ?_, ⟨by rw [b2]; exact k2, c2⟩⟩
  simp only [List.map_append, List.map_cons, List.map_nil, erL, er_s, er_v, e2]
  rfl
def ty_GPeer : Ty := (.struct (.cons (.int .i64) (.cons (.int .i64) (.cons (.int .i64) (.cons (.int .i64) .nil)))))
theorem open_GPeer {ts : List DT} (h : Shape ty_GPeer ts) : ∃ x : GPeer, erL ts = GPeer.t x ∧ Wf.wf x := by
  simp only [ty_GPeer, Shape, ShapeF] at h
  obtain ⟨xs0, ys0, rfl, s0, xs1, ys1, rfl, s1, xs2, ys2, rfl, s2, xs3, ys3, rfl, s3, rfl⟩ := h
  obtain ⟨v0, rfl, k0⟩ := s0
  obtain ⟨v1, rfl, k1⟩ := s1
  obtain ⟨v2, rfl, k2⟩ := s2
  obtain ⟨v3, rfl, k3⟩ := s3
  refine ⟨⟨v0, v1, v2, v3⟩, ?_, trivial⟩
  simp only [List.map_append, List.map_cons, List.map_nil, erL, er_s, er_v]
  rfl
def ty_LNode : Ty := (.struct (.cons (.int .i64) (.cons (.int .i64) (.cons (.int .i64) (.cons (.int .i64) (.cons (.int .i64) (.cons (.slice (.int .i64)) (.cons (.struct (.cons (.int .i64) (.cons (.int .i64) (.cons (.slice (.struct (.cons (.int .i64) (.cons (.int .i64) (.cons .str .nil))))) .nil)))) (.cons (.int .i64) (.cons (.int .i64) (.cons (.int .i64) (.cons (.slice (.int .i64)) (.cons (.slice (.struct (.cons (.int .i64) (.cons (.int .i64) (.cons (.int .i64) (.cons (.int .i64) .nil)))))) .nil)))))))))))))
theorem open_LNode {ts : List DT} (h : Shape ty_LNode ts) : ∃ x : LNode, erL ts = LNode.t .far x ∧ Wf.wf x := by
  simp only [ty_LNode, Shape, ShapeF] at h
  obtain ⟨xs0, ys0, rfl, s0, xs1, ys1, rfl, s1, xs2, ys2, rfl, s2, xs3, ys3, rfl, s3, xs4, ys4, rfl, s4, xs5, ys5, rfl, s5, xs6, ys6, rfl, s6, xs7, ys7, rfl, s7, xs8, ys8, rfl, s8, xs9, ys9, rfl, s9, xs10, ys10, rfl, s10, xs11, ys11, rfl, s11, rfl⟩ := h
  obtain ⟨v0, rfl, k0⟩ := s0
  obtain ⟨v1, rfl, k1⟩ := s1
  obtain ⟨v2, rfl, k2⟩ := s2
  obtain ⟨v3, rfl, k3⟩ := s3
  obtain ⟨v4, rfl, k4⟩ := s4
  obtain ⟨d5, r5, rfl, k5, a5⟩ := s5
  obtain ⟨v5, e5, b5, c5⟩ := rowsOpen (enc := etI) (B := Wf.wf) r5 (fun r hr => (by obtain ⟨n, rfl, hn⟩ := a5 r hr; exact ⟨n, rfl, trivial⟩))
  obtain ⟨v6, e6, k6⟩ := open_LLog (ts := xs6) (by simp only [ty_LLog, Shape, ShapeF]; exact s6)
  obtain ⟨v7, rfl, k7⟩ := s7
  obtain ⟨v8, rfl, k8⟩ := s8
  obtain ⟨v9, rfl, k9⟩ := s9
  obtain ⟨d10, r10, rfl, k10, a10⟩ := s10
  obtain ⟨v10, e10, b10, c10⟩ := rowsOpen (enc := etI) (B := Wf.wf) r10 (fun r hr => (by obtain ⟨n, rfl, hn⟩ := a10 r hr; exact ⟨n, rfl, trivial⟩))
  obtain ⟨d11, r11, rfl, k11, a11⟩ := s11
  obtain ⟨v11, e11, b11, c11⟩ := rowsOpen (enc := GPeer.t) (B := Wf.wf) r11 (fun r hr => open_GPeer (by simp only [ty_GPeer, Shape, ShapeF]; exact a11 r hr))
  refine ⟨⟨v0, v1, v2, v3, v4, v5, v6, v7, v8, v9, v10, v11⟩, ?_, ⟨⟨by rw [b5]; exact k5, c5⟩, k6, ⟨by rw [b10]; exact k10, c10⟩, ⟨by rw [b11]; exact k11, c11⟩⟩⟩
  simp only [List.map_append, List.map_cons, List.map_nil, erL, er_s, er_v, e5, e6, e10, e11]
  rfl
set_option maxRecDepth 100000 in
theorem lifted (os : Os) (started : os.Started) (H : Type) (enc : TypeId × Value → H) :
    ReturnsInHanded {} Try.checked os 6 .any (Rows.fnExactSettleSpec.pre6 enc Try.prog Try.f6 Rows.fnExactSettleRow.domain false) (Rows.fnExactSettleSpec.post enc Try.prog Try.f6 false true false false) := by
  refine returnsInHanded_of_change_sized (C := Try.checked) own started (by kernel_rfl) Try.func6
    (ChangeSpec.witness6 (enc := enc) (C := Try.checked) false ⟨#[], #[.agg #[.int .i64 0, .int .i64 0, .int .i64 0, .int .i64 0, .int .i64 0, .slice none 0 0, .int .i64 0, .int .i64 0, .slice none 0 0, .int .i64 0, .int .i64 0, .int .i64 0, .slice none 0 0, .slice none 0 0], .int .i64 0], []⟩ 8 (by kernel_rfl) (by kernel_rfl) (by kernel_rfl) (by kernel_rfl)) ?_
  intro W base args ds gs before hval0 hW hcnd hsz0 _
  have hval : ∀ (j : Nat) t v, Try.f6.params[j]? = some t → args[j]? = some v → Value.okWide Try.prog W .any base t v := hval0
  have hW' := hW
  obtain ⟨p, q, hA0, hV, rfl, hfz, hnd⟩ := hW
  have hA : DataW.TrodAll enc Try.prog W 0 (fun _ => true) true Try.f6.params.toList args.toList ds p := hA0
  rw [Try.params6] at hA hval
  have hlt := hA.lt
  obtain ⟨v0, vs0, d0, ds0, p0, q0, hargs, rfl, rfl, h0, r0⟩ := trodAll_cons hA
  obtain ⟨v1, vs1, d1, ds1, p1, q1, hargs1, rfl, rfl, h1, r1⟩ := trodAll_cons r0
  obtain ⟨rfl, rfl, rfl⟩ := trodAll_nil r1
  obtain rfl : args = #[v0, v1] := by cases args; simp_all
  obtain ⟨rfl, rfl⟩ := trodVars_none hV
  have hok0 := hval 0 28 v0 rfl rfl
  unfold Value.okWide at hok0
  rw [Try.underlying28] at hok0
  obtain ⟨cs0, rfl, _, _⟩ := hok0
  have h0k := h0
  obtain ⟨n0, h0⟩ := h0
  obtain ⟨ts0, R0, S0, L0⟩ := Ty.open ty_LNode n0 28 _ _ (by kernel_rfl) h0
  obtain ⟨x0, e0, k0⟩ := open_LNode S0
  obtain ⟨x1, rfl, rfl, rfl, k1⟩ := open_int Try.underlying3 (hval 1 3 v1 rfl rfl) h1
  clear hA0 hval0 hsz0
  refine (runs (T_law_Settle x0 x1 k0) (ad := [.agg ts0, .one (.v (.int .i64 x1))]) (by simp only [List.map_cons, List.map_nil, Sl.er, er_v, er_s]; rw [e0]) (ArgsIn.cons (AOk.agg R0 (Shape.noLent ty_LNode _ S0)) (ArgsIn.cons (AOk.one (t := .v (.int .i64 x1)) (Reads.val rfl) rfl) (ArgsIn.nil W)))).mono fun e W' ⟨he, bel⟩ => ?_
  subst he
  exact ⟨_, rfl, _, _, _, [], _, [], hW', trodAll_mk1 (shut_bool Try.underlying4 _), (trodAll_cons_mk (Below.trod laid (by kernel_rfl) (of_decide_eq_true (by kernel_rfl)) h0k bel (fun x hx => hlt x (by simp [hx]))) (trodAll_cons_mk (shut_int Try.underlying3 k1) trodAll_mk0)), rfl, bel.frame _, fun h => by cases h⟩
theorem over : Rows.fnExactSettleRow.holds Try.pinned (OpenSpec.ofChange Rows.fnExactSettleSpec) :=
  OpenClaim.holds_of_wide 6 Try.f6 rfl rfl rfl rfl rfl rfl rfl ⟨rfl, rfl, rfl, rfl, rfl⟩ rfl rfl rfl rfl rfl (by kernel_rfl) Try.func6 (by kernel_rfl)
    (of_decide_eq_true (by kernel_rfl)) (by unfold Func.isWrapper; first | (rw [if_pos (by decide +kernel)]; kernel_rfl) | (rw [if_neg (by decide +kernel)]; exact ⟨rfl, rfl⟩))
    (fun os started H enc _ => lifted os started H enc)
theorem proved : Rows.FnExactSettleSaid := over
end Go.Proofs.Ytgpllfmogdpapaa.fnExactSettle
namespace Go.Proofs.Ytgpllfmogdpapaa
theorem fnExactSettle_holds : Rows.FnExactSettleSaid := fnExactSettle.proved
end Go.Proofs.Ytgpllfmogdpapaa
