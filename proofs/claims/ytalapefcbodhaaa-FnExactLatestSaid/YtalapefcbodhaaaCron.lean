/- What fires and when, of rules. Conditions: none. -/
import Derived.Test.YtalapefcbodhaaaEnv
namespace Go.Proofs.Ytalapefcbodhaaa.Am
set_option linter.unusedVariables false
set_option linter.unusedSimpArgs false
open Go Go.Proofs Classical
set_option maxRecDepth 100000
set_option linter.unusedVariables false
set_option linter.unusedSimpArgs false
structure GCron where
  f0 : List Int
  f1 : List Int
  f2 : List Int
  f3 : List Int
  f4 : List Int
def GCron.t (k : Kd) (x : GCron) : List (T Unit) := [.s k () 1 (x.f0.map etI), .s k () 1 (x.f1.map etI), .s k () 1 (x.f2.map etI), .s k () 1 (x.f3.map etI), .s k () 1 (x.f4.map etI)]
instance : Small GCron := ⟨fun x => Small.sm x.f0 ∧ Small.sm x.f1 ∧ Small.sm x.f2 ∧ Small.sm x.f3 ∧ Small.sm x.f4⟩
instance : Wf GCron := ⟨fun x => Wf.wf x.f0 ∧ Wf.wf x.f1 ∧ Wf.wf x.f2 ∧ Wf.wf x.f3 ∧ Wf.wf x.f4⟩
structure GSpan where
  f0 : Int
  f1 : Int
def GSpan.t (x : GSpan) : List (T Unit) := [tI x.f0, tI x.f1]
instance : Small GSpan := ⟨fun x => True⟩
instance : Wf GSpan := ⟨fun x => True⟩
structure GCivil where
  f0 : Int
  f1 : Int
  f2 : Int
  f3 : Int
  f4 : Int
def GCivil.t (x : GCivil) : List (T Unit) := [tI x.f0, tI x.f1, tI x.f2, tI x.f3, tI x.f4]
instance : Small GCivil := ⟨fun x => True⟩
instance : Wf GCivil := ⟨fun x => True⟩
theorem l_szIntS_P0 (x0 : List Int) (x1 : Int) (h0 : (decide ((IntKind.wrap .i64 (x1 - (x0.length : Int))) < (0 : Int))) = true) : Does E 33 [.one (.s .far () 1 (x0.map etI)), .one (tI x1)] [(false, [tI (-1 : Int)])] :=
  Does.path (fn := Try.f33) [.val (.int .i64 (x0.length : Int)), .no, .b true] _ rfl (fun _ => rfl) (fun k => by kernel_rfl) (AV (ψ := fun _ => ((x0.map etI).length : Int) = (x0.length : Int)) (Ev.c lenMap) <| AC h0 <| AN)
theorem l_szIntS_P1 (x0 : List Int) (x1 : Int) (h0 : (decide ((IntKind.wrap .i64 (x1 - (x0.length : Int))) < (0 : Int))) = false) : Does E 33 [.one (.s .far () 1 (x0.map etI)), .one (tI x1)] [(false, [tI (IntKind.wrap .i64 (x1 - (x0.length : Int)))])] :=
  Does.path (fn := Try.f33) [.val (.int .i64 (x0.length : Int)), .no, .b false] _ rfl (fun _ => rfl) (fun k => by kernel_rfl) (AV (ψ := fun _ => ((x0.map etI).length : Int) = (x0.length : Int)) (Ev.c lenMap) <| AC h0 <| AN)
noncomputable def l_szIntS_F (x0 : List Int) (x1 : Int) : Option (Int) :=
    cond (decide ((IntKind.wrap .i64 (x1 - (x0.length : Int))) < (0 : Int)))
      (some ((-1 : Int)))
      (some (IntKind.wrap .i64 (x1 - (x0.length : Int))))
theorem l_szIntS_D (x0 : List Int) (x1 : Int) : Ans (l_szIntS_F x0 x1) (fun r => Does E 33 [.one (.s .far () 1 (x0.map etI)), .one (tI x1)] [(false, [tI r])]) := by
  unfold l_szIntS_F
  refine Ans.ite (fun h0 => ?_) (fun h0 => ?_)
  · exact Ans.some (l_szIntS_P0 x0 x1 h0)
  · exact Ans.some (l_szIntS_P1 x0 x1 h0)
noncomputable def p_l_szIntS (x : List Int) (n : Int) : Int := (l_szIntS_F x n).getD (-1)
theorem tot_l_szIntS (x : List Int) (n : Int) (h : Wf.wf x) : l_szIntS_F x n = some (p_l_szIntS x n) := by
  refine Tot.getD ?_ _
  unfold l_szIntS_F
  refine Tot.cond (Tot.some _) ?_
  exact Tot.some _
theorem T_l_szIntS (x0 : List Int) (x1 : Int) (h : Wf.wf x0) : Does E 33 [.one (.s .far () 1 (x0.map etI)), .one (tI x1)] [(false, [tI (p_l_szIntS x0 x1)])] := by
  exact l_szIntS_D x0 x1 _ (tot_l_szIntS x0 x1 h)
theorem le_l_szIntS (x : List Int) (n : Int) (hw : Wf.wf x) (h0 : 0 ≤ n) (h1 : n ≤ 1048576) (h : 0 ≤ p_l_szIntS x n) : p_l_szIntS x n ≤ n ∧ Small.sm x := by
  have e := tot_l_szIntS x n hw
  generalize p_l_szIntS x n = r at *
  unfold l_szIntS_F at e
  obtain ⟨a1, e⟩ := szStep e h
  obtain ⟨b1, c1⟩ := szStr (n := n) (k := x.length) h0 h1 hw.1 a1
  cases e
  exact ⟨b1, small_of c1, fun y _ => trivial⟩
theorem l_szCron_P0 (x0 : GCron) (x1 : Int) (h0 : Wf.wf x0.f0) (h1 : (decide ((p_l_szIntS x0.f0 x1) < (0 : Int))) = true) : Does E 15 [.agg (GCron.t .far x0), .one (tI x1)] [(false, [tI (-1 : Int)])] :=
  Does.path (fn := Try.f15) [.ret [(false, [tI (p_l_szIntS x0.f0 x1)])], .b true] _ rfl (fun _ => rfl) (fun k => by kernel_rfl) (AD (T_l_szIntS x0.f0 x1 h0) <| AC h1 <| AN)
theorem l_szCron_P1 (x0 : GCron) (x1 : Int) (h0 : Wf.wf x0.f0) (h1 : (decide ((p_l_szIntS x0.f0 x1) < (0 : Int))) = false) (h2 : Wf.wf x0.f1) (h3 : (decide ((p_l_szIntS x0.f1 (p_l_szIntS x0.f0 x1)) < (0 : Int))) = true) : Does E 15 [.agg (GCron.t .far x0), .one (tI x1)] [(false, [tI (-1 : Int)])] :=
  Does.path (fn := Try.f15) [.ret [(false, [tI (p_l_szIntS x0.f0 x1)])], .b false, .ret [(false, [tI (p_l_szIntS x0.f1 (p_l_szIntS x0.f0 x1))])], .b true] _ rfl (fun _ => rfl) (fun k => by kernel_rfl) (AD (T_l_szIntS x0.f0 x1 h0) <| AC h1 <| AD (T_l_szIntS x0.f1 (p_l_szIntS x0.f0 x1) h2) <| AC h3 <| AN)
theorem l_szCron_P2 (x0 : GCron) (x1 : Int) (h0 : Wf.wf x0.f0) (h1 : (decide ((p_l_szIntS x0.f0 x1) < (0 : Int))) = false) (h2 : Wf.wf x0.f1) (h3 : (decide ((p_l_szIntS x0.f1 (p_l_szIntS x0.f0 x1)) < (0 : Int))) = false) (h4 : Wf.wf x0.f2) (h5 : (decide ((p_l_szIntS x0.f2 (p_l_szIntS x0.f1 (p_l_szIntS x0.f0 x1))) < (0 : Int))) = true) : Does E 15 [.agg (GCron.t .far x0), .one (tI x1)] [(false, [tI (-1 : Int)])] :=
  Does.path (fn := Try.f15) [.ret [(false, [tI (p_l_szIntS x0.f0 x1)])], .b false, .ret [(false, [tI (p_l_szIntS x0.f1 (p_l_szIntS x0.f0 x1))])], .b false, .ret [(false, [tI (p_l_szIntS x0.f2 (p_l_szIntS x0.f1 (p_l_szIntS x0.f0 x1)))])], .b true] _ rfl (fun _ => rfl) (fun k => by kernel_rfl) (AD (T_l_szIntS x0.f0 x1 h0) <| AC h1 <| AD (T_l_szIntS x0.f1 (p_l_szIntS x0.f0 x1) h2) <| AC h3 <| AD (T_l_szIntS x0.f2 (p_l_szIntS x0.f1 (p_l_szIntS x0.f0 x1)) h4) <| AC h5 <| AN)
theorem l_szCron_P3 (x0 : GCron) (x1 : Int) (h0 : Wf.wf x0.f0) (h1 : (decide ((p_l_szIntS x0.f0 x1) < (0 : Int))) = false) (h2 : Wf.wf x0.f1) (h3 : (decide ((p_l_szIntS x0.f1 (p_l_szIntS x0.f0 x1)) < (0 : Int))) = false) (h4 : Wf.wf x0.f2) (h5 : (decide ((p_l_szIntS x0.f2 (p_l_szIntS x0.f1 (p_l_szIntS x0.f0 x1))) < (0 : Int))) = false) (h6 : Wf.wf x0.f3) (h7 : (decide ((p_l_szIntS x0.f3 (p_l_szIntS x0.f2 (p_l_szIntS x0.f1 (p_l_szIntS x0.f0 x1)))) < (0 : Int))) = true) : Does E 15 [.agg (GCron.t .far x0), .one (tI x1)] [(false, [tI (-1 : Int)])] :=
  Does.path (fn := Try.f15) [.ret [(false, [tI (p_l_szIntS x0.f0 x1)])], .b false, .ret [(false, [tI (p_l_szIntS x0.f1 (p_l_szIntS x0.f0 x1))])], .b false, .ret [(false, [tI (p_l_szIntS x0.f2 (p_l_szIntS x0.f1 (p_l_szIntS x0.f0 x1)))])], .b false, .ret [(false, [tI (p_l_szIntS x0.f3 (p_l_szIntS x0.f2 (p_l_szIntS x0.f1 (p_l_szIntS x0.f0 x1))))])], .b true] _ rfl (fun _ => rfl) (fun k => by kernel_rfl) (AD (T_l_szIntS x0.f0 x1 h0) <| AC h1 <| AD (T_l_szIntS x0.f1 (p_l_szIntS x0.f0 x1) h2) <| AC h3 <| AD (T_l_szIntS x0.f2 (p_l_szIntS x0.f1 (p_l_szIntS x0.f0 x1)) h4) <| AC h5 <| AD (T_l_szIntS x0.f3 (p_l_szIntS x0.f2 (p_l_szIntS x0.f1 (p_l_szIntS x0.f0 x1))) h6) <| AC h7 <| AN)
theorem l_szCron_P4 (x0 : GCron) (x1 : Int) (h0 : Wf.wf x0.f0) (h1 : (decide ((p_l_szIntS x0.f0 x1) < (0 : Int))) = false) (h2 : Wf.wf x0.f1) (h3 : (decide ((p_l_szIntS x0.f1 (p_l_szIntS x0.f0 x1)) < (0 : Int))) = false) (h4 : Wf.wf x0.f2) (h5 : (decide ((p_l_szIntS x0.f2 (p_l_szIntS x0.f1 (p_l_szIntS x0.f0 x1))) < (0 : Int))) = false) (h6 : Wf.wf x0.f3) (h7 : (decide ((p_l_szIntS x0.f3 (p_l_szIntS x0.f2 (p_l_szIntS x0.f1 (p_l_szIntS x0.f0 x1)))) < (0 : Int))) = false) (h8 : Wf.wf x0.f4) (h9 : (decide ((p_l_szIntS x0.f4 (p_l_szIntS x0.f3 (p_l_szIntS x0.f2 (p_l_szIntS x0.f1 (p_l_szIntS x0.f0 x1))))) < (0 : Int))) = true) : Does E 15 [.agg (GCron.t .far x0), .one (tI x1)] [(false, [tI (-1 : Int)])] :=
  Does.path (fn := Try.f15) [.ret [(false, [tI (p_l_szIntS x0.f0 x1)])], .b false, .ret [(false, [tI (p_l_szIntS x0.f1 (p_l_szIntS x0.f0 x1))])], .b false, .ret [(false, [tI (p_l_szIntS x0.f2 (p_l_szIntS x0.f1 (p_l_szIntS x0.f0 x1)))])], .b false, .ret [(false, [tI (p_l_szIntS x0.f3 (p_l_szIntS x0.f2 (p_l_szIntS x0.f1 (p_l_szIntS x0.f0 x1))))])], .b false, .ret [(false, [tI (p_l_szIntS x0.f4 (p_l_szIntS x0.f3 (p_l_szIntS x0.f2 (p_l_szIntS x0.f1 (p_l_szIntS x0.f0 x1)))))])], .b true] _ rfl (fun _ => rfl) (fun k => by kernel_rfl) (AD (T_l_szIntS x0.f0 x1 h0) <| AC h1 <| AD (T_l_szIntS x0.f1 (p_l_szIntS x0.f0 x1) h2) <| AC h3 <| AD (T_l_szIntS x0.f2 (p_l_szIntS x0.f1 (p_l_szIntS x0.f0 x1)) h4) <| AC h5 <| AD (T_l_szIntS x0.f3 (p_l_szIntS x0.f2 (p_l_szIntS x0.f1 (p_l_szIntS x0.f0 x1))) h6) <| AC h7 <| AD (T_l_szIntS x0.f4 (p_l_szIntS x0.f3 (p_l_szIntS x0.f2 (p_l_szIntS x0.f1 (p_l_szIntS x0.f0 x1)))) h8) <| AC h9 <| AN)
theorem l_szCron_P5 (x0 : GCron) (x1 : Int) (h0 : Wf.wf x0.f0) (h1 : (decide ((p_l_szIntS x0.f0 x1) < (0 : Int))) = false) (h2 : Wf.wf x0.f1) (h3 : (decide ((p_l_szIntS x0.f1 (p_l_szIntS x0.f0 x1)) < (0 : Int))) = false) (h4 : Wf.wf x0.f2) (h5 : (decide ((p_l_szIntS x0.f2 (p_l_szIntS x0.f1 (p_l_szIntS x0.f0 x1))) < (0 : Int))) = false) (h6 : Wf.wf x0.f3) (h7 : (decide ((p_l_szIntS x0.f3 (p_l_szIntS x0.f2 (p_l_szIntS x0.f1 (p_l_szIntS x0.f0 x1)))) < (0 : Int))) = false) (h8 : Wf.wf x0.f4) (h9 : (decide ((p_l_szIntS x0.f4 (p_l_szIntS x0.f3 (p_l_szIntS x0.f2 (p_l_szIntS x0.f1 (p_l_szIntS x0.f0 x1))))) < (0 : Int))) = false) : Does E 15 [.agg (GCron.t .far x0), .one (tI x1)] [(false, [tI (p_l_szIntS x0.f4 (p_l_szIntS x0.f3 (p_l_szIntS x0.f2 (p_l_szIntS x0.f1 (p_l_szIntS x0.f0 x1)))))])] :=
  Does.path (fn := Try.f15) [.ret [(false, [tI (p_l_szIntS x0.f0 x1)])], .b false, .ret [(false, [tI (p_l_szIntS x0.f1 (p_l_szIntS x0.f0 x1))])], .b false, .ret [(false, [tI (p_l_szIntS x0.f2 (p_l_szIntS x0.f1 (p_l_szIntS x0.f0 x1)))])], .b false, .ret [(false, [tI (p_l_szIntS x0.f3 (p_l_szIntS x0.f2 (p_l_szIntS x0.f1 (p_l_szIntS x0.f0 x1))))])], .b false, .ret [(false, [tI (p_l_szIntS x0.f4 (p_l_szIntS x0.f3 (p_l_szIntS x0.f2 (p_l_szIntS x0.f1 (p_l_szIntS x0.f0 x1)))))])], .b false] _ rfl (fun _ => rfl) (fun k => by kernel_rfl) (AD (T_l_szIntS x0.f0 x1 h0) <| AC h1 <| AD (T_l_szIntS x0.f1 (p_l_szIntS x0.f0 x1) h2) <| AC h3 <| AD (T_l_szIntS x0.f2 (p_l_szIntS x0.f1 (p_l_szIntS x0.f0 x1)) h4) <| AC h5 <| AD (T_l_szIntS x0.f3 (p_l_szIntS x0.f2 (p_l_szIntS x0.f1 (p_l_szIntS x0.f0 x1))) h6) <| AC h7 <| AD (T_l_szIntS x0.f4 (p_l_szIntS x0.f3 (p_l_szIntS x0.f2 (p_l_szIntS x0.f1 (p_l_szIntS x0.f0 x1)))) h8) <| AC h9 <| AN)
noncomputable def l_szCron_F (x0 : GCron) (x1 : Int) : Option (Int) :=
    if Wf.wf x0.f0 then cond (decide ((p_l_szIntS x0.f0 x1) < (0 : Int)))
      (some ((-1 : Int)))
      (if Wf.wf x0.f1 then cond (decide ((p_l_szIntS x0.f1 (p_l_szIntS x0.f0 x1)) < (0 : Int)))
        (some ((-1 : Int)))
        (if Wf.wf x0.f2 then cond (decide ((p_l_szIntS x0.f2 (p_l_szIntS x0.f1 (p_l_szIntS x0.f0 x1))) < (0 : Int)))
          (some ((-1 : Int)))
          (if Wf.wf x0.f3 then cond (decide ((p_l_szIntS x0.f3 (p_l_szIntS x0.f2 (p_l_szIntS x0.f1 (p_l_szIntS x0.f0 x1)))) < (0 : Int)))
            (some ((-1 : Int)))
            (if Wf.wf x0.f4 then cond (decide ((p_l_szIntS x0.f4 (p_l_szIntS x0.f3 (p_l_szIntS x0.f2 (p_l_szIntS x0.f1 (p_l_szIntS x0.f0 x1))))) < (0 : Int)))
              (some ((-1 : Int)))
              (some (p_l_szIntS x0.f4 (p_l_szIntS x0.f3 (p_l_szIntS x0.f2 (p_l_szIntS x0.f1 (p_l_szIntS x0.f0 x1)))))) else none) else none) else none) else none) else none
theorem l_szCron_D (x0 : GCron) (x1 : Int) : Ans (l_szCron_F x0 x1) (fun r => Does E 15 [.agg (GCron.t .far x0), .one (tI x1)] [(false, [tI r])]) := by
  unfold l_szCron_F
  refine Ans.pre (fun h0 => ?_)
  refine Ans.ite (fun h1 => ?_) (fun h1 => ?_)
  · exact Ans.some (l_szCron_P0 x0 x1 h0 h1)
  · refine Ans.pre (fun h2 => ?_)
    refine Ans.ite (fun h3 => ?_) (fun h3 => ?_)
    · exact Ans.some (l_szCron_P1 x0 x1 h0 h1 h2 h3)
    · refine Ans.pre (fun h4 => ?_)
      refine Ans.ite (fun h5 => ?_) (fun h5 => ?_)
      · exact Ans.some (l_szCron_P2 x0 x1 h0 h1 h2 h3 h4 h5)
      · refine Ans.pre (fun h6 => ?_)
        refine Ans.ite (fun h7 => ?_) (fun h7 => ?_)
        · exact Ans.some (l_szCron_P3 x0 x1 h0 h1 h2 h3 h4 h5 h6 h7)
        · refine Ans.pre (fun h8 => ?_)
          refine Ans.ite (fun h9 => ?_) (fun h9 => ?_)
          · exact Ans.some (l_szCron_P4 x0 x1 h0 h1 h2 h3 h4 h5 h6 h7 h8 h9)
          · exact Ans.some (l_szCron_P5 x0 x1 h0 h1 h2 h3 h4 h5 h6 h7 h8 h9)
noncomputable def p_l_szCron (x : GCron) (n : Int) : Int := (l_szCron_F x n).getD (-1)
theorem tot_l_szCron (x : GCron) (n : Int) (h : Wf.wf x) : l_szCron_F x n = some (p_l_szCron x n) := by
  obtain ⟨w0, w1, w2, w3, w4⟩ := h
  refine Tot.getD ?_ _
  unfold l_szCron_F
  repeat' (first | exact Tot.some _ | apply Tot.cond | refine Tot.ite (by assumption) ?_)
theorem T_l_szCron (x0 : GCron) (x1 : Int) (h : Wf.wf x0) : Does E 15 [.agg (GCron.t .far x0), .one (tI x1)] [(false, [tI (p_l_szCron x0 x1)])] := by
  exact l_szCron_D x0 x1 _ (tot_l_szCron x0 x1 h)
theorem le_l_szCron (x : GCron) (n : Int) (hw : Wf.wf x) (h0 : 0 ≤ n) (h1 : n ≤ 1048576) (h : 0 ≤ p_l_szCron x n) : p_l_szCron x n ≤ n ∧ Small.sm x := by
  have e := tot_l_szCron x n hw
  obtain ⟨w0, w1, w2, w3, w4⟩ := hw
  generalize p_l_szCron x n = r at *
  unfold l_szCron_F at e
  try rw [if_pos w0] at e
  obtain ⟨a1, e⟩ := szStep e h
  try rw [if_pos w0] at e
  obtain ⟨b1, c1⟩ := le_l_szIntS x.f0 n w0 h0 (by omega) a1
  generalize p_l_szIntS x.f0 n = m1 at *
  try rw [if_pos w1] at e
  obtain ⟨a2, e⟩ := szStep e h
  try rw [if_pos w1] at e
  obtain ⟨b2, c2⟩ := le_l_szIntS x.f1 m1 w1 a1 (by omega) a2
  generalize p_l_szIntS x.f1 m1 = m2 at *
  try rw [if_pos w2] at e
  obtain ⟨a3, e⟩ := szStep e h
  try rw [if_pos w2] at e
  obtain ⟨b3, c3⟩ := le_l_szIntS x.f2 m2 w2 a2 (by omega) a3
  generalize p_l_szIntS x.f2 m2 = m3 at *
  try rw [if_pos w3] at e
  obtain ⟨a4, e⟩ := szStep e h
  try rw [if_pos w3] at e
  obtain ⟨b4, c4⟩ := le_l_szIntS x.f3 m3 w3 a3 (by omega) a4
  generalize p_l_szIntS x.f3 m3 = m4 at *
  try rw [if_pos w4] at e
  obtain ⟨a5, e⟩ := szStep e h
  try rw [if_pos w4] at e
  obtain ⟨b5, c5⟩ := le_l_szIntS x.f4 m4 w4 a4 (by omega) a5
  generalize p_l_szIntS x.f4 m4 = m5 at *
  cases e
  exact ⟨by omega, ⟨c1, c2, c3, c4, c5⟩⟩
inductive l_toIntS_X0 where
  | x0 (v3 : List Int)
def l_toIntS_Q0 (v0 : List Int) (v3 : List Int) (v4 : Int) : l_toIntS_X0 → Prop
  | .x0 zv3 => Loops E 34 (lpAt Try.f34 0) (stL 22 [(0, .one (.s .far () 1 (v0.map etI))), (3, .one (.s .own () 1 (v3.map etI))), (4, .one (tI v4))]) (.exit 0) (stL 22 [(3, .one (.s .own () 1 (zv3.map etI)))])
theorem l_toIntS_R0_0 (v0 : List Int) (v3 : List Int) (v4 : Int) (g0 : Int) (g1 : Int) (h0 : (decide (v4 < (v0.length : Int))) = true) (h1 : getI v0 v4 = some g0) (h2 : getI v3 v4 = some g1) : Round E 34 (lpAt Try.f34 0) (stL 22 [(0, .one (.s .far () 1 (v0.map etI))), (3, .one (.s .own () 1 (v3.map etI))), (4, .one (tI v4))]) .normal (stL 22 [(0, .one (.s .far () 1 (v0.map etI))), (3, .one (.s .own () 1 ((v3.set v4.toNat g0).map etI))), (4, .one (tI (inc v4)))]) :=
  Round.path [.val (.int .i64 (v0.length : Int)), .b true, .row (etI g0), .row (etI g1), .rows ((v3.set v4.toNat g0).map etI)] _ (fun k => by kernel_rfl) (AV (ψ := fun _ => ((v0.map etI).length : Int) = (v0.length : Int)) (Ev.c lenMap) <| AC h0 <| AV (ψ := fun _ => 0 ≤ v4 ∧ (v0.map etI)[v4.toNat]? = some (etI g0)) (Ev.c (getRow h1)) <| AV (ψ := fun _ => 0 ≤ v4 ∧ v4 < ((v3.map etI).length : Int)) (Ev.c (getLt h2)) <| AV (ψ := fun _ => (v3.map etI)[0 + v4.toNat]? = some (etI g1)) (Ev.c (getRow0 h2)) <| AV (ψ := fun _ => (v3.map etI).set (0 + v4.toNat) (spliceAt (etI g1) 0 [tI g0]) = (v3.set v4.toNat g0).map etI) (Ev.c (setMap (by rfl))) <| AN)
theorem l_toIntS_R0_1 (v0 : List Int) (v3 : List Int) (v4 : Int) (h0 : (decide (v4 < (v0.length : Int))) = false) : Round E 34 (lpAt Try.f34 0) (stL 22 [(0, .one (.s .far () 1 (v0.map etI))), (3, .one (.s .own () 1 (v3.map etI))), (4, .one (tI v4))]) (.exit 0) (stL 22 [(3, .one (.s .own () 1 (v3.map etI)))]) :=
  Round.path [.val (.int .i64 (v0.length : Int)), .b false] _ (fun k => by kernel_rfl) (AV (ψ := fun _ => ((v0.map etI).length : Int) = (v0.length : Int)) (Ev.c lenMap) <| AC h0 <| AN)
noncomputable def l_toIntS_l0  : List Int → Nat → (List Int) → Option l_toIntS_X0
  | [], i, v3 => some (.x0 v3)
  | hd :: rest, i, v3 => (getI v3 (i : Int)).bind fun g1 => l_toIntS_l0 rest (i + 1) (v3.set (i : Int).toNat hd)
theorem l_toIntS_L0 (v0 : List Int) (rest : List Int) : ∀ (i : Nat) (v3 : List Int), (v0).drop i = rest → v0.length ≤ 9223372036854775807 → Ans (l_toIntS_l0 rest i v3) (l_toIntS_Q0 v0 v3 (i : Int)) := by
  induction rest with
  | nil =>
    intro i v3 hE hl
    have hb := foldEnd hE
    unfold l_toIntS_l0
    exact Ans.some (Loops.stop (l_toIntS_R0_1 v0 v3 (i : Int) hb) (by intro h; cases h))
  | cons hd rest ih =>
    intro i v3 hE hl
    have hb := foldMore hE
    have hw := foldNext hE hl
    have hE2 := foldRest hE
    have hg := foldGet hE
    unfold l_toIntS_l0
    refine Ans.bind (fun g1 h2 => ?_)
    exact (ih (i + 1) (v3.set (i : Int).toNat hd) hE2 hl).mono fun y hy => by have r := l_toIntS_R0_0 v0 v3 (i : Int) hd g1 hb hg h2; rw [hw] at r; cases y <;> exact Loops.next r hy
theorem l_toIntS_P0 (x0 : List Int) (w0_3 : List Int) (h0 : 0 ≤ (x0.length : Int) ∧ (x0.length : Int) ≤ (x0.length : Int) ∧ ((8 : Nat) : Int) * (x0.length : Int) ≤ 281474976710656 ∧ (x0.length : Int) ≤ 4611686018427387904) (h1 : Loops E 34 (lpAt Try.f34 0) (stL 22 [(0, .one (.s .far () 1 (x0.map etI))), (3, .one (.s .own () 1 ((List.replicate (x0.length : Int).toNat (0 : Int)).map etI))), (4, .one (tI (0 : Int)))]) (.exit 0) (stL 22 [(3, .one (.s .own () 1 (w0_3.map etI)))])) : Does E 34 [.one (.s .far () 1 (x0.map etI))] [(false, [.s .own () 1 (w0_3.map etI)])] :=
  Does.path (fn := Try.f34) [.val (.int .i64 (x0.length : Int)), .rows ((List.replicate (x0.length : Int).toNat (0 : Int)).map etI), .lp (.exit 0) (stL 22 [(3, .one (.s .own () 1 (w0_3.map etI)))])] _ rfl (fun _ => rfl) (fun k => by kernel_rfl) (AV (ψ := fun _ => ((x0.map etI).length : Int) = (x0.length : Int)) (Ev.c lenMap) <| AV (ψ := fun _ => 0 ≤ (x0.length : Int) ∧ (x0.length : Int) ≤ (x0.length : Int) ∧ ((8 : Nat) : Int) * (x0.length : Int) ≤ 281474976710656 ∧ (x0.length : Int) ≤ 4611686018427387904) (Ev.c h0) <| AV (ψ := fun _ => List.replicate (x0.length : Int).toNat [tI (0 : Int)] = (List.replicate (x0.length : Int).toNat (0 : Int)).map etI) (Ev.c (repMap rfl)) <| AV (ψ := fun k => LoopK E 34 (lpAt Try.f34 0) (stL 22 [(0, .one (.s .far () 1 (x0.map etI))), (3, .one (.s .own () 1 ((List.replicate (x0.length : Int).toNat (0 : Int)).map etI))), (4, .one (tI (0 : Int)))]) (.exit 0) (stL 22 [(3, .one (.s .own () 1 (w0_3.map etI)))]) k k) (Loops.ev h1) <| AN)
noncomputable def l_toIntS_F (x0 : List Int) : Option ((List Int)) :=
    if 0 ≤ (x0.length : Int) ∧ (x0.length : Int) ≤ (x0.length : Int) ∧ ((8 : Nat) : Int) * (x0.length : Int) ≤ 281474976710656 ∧ (x0.length : Int) ≤ 4611686018427387904 then if x0.length ≤ 9223372036854775807 then (l_toIntS_l0 x0 0 (List.replicate (x0.length : Int).toNat (0 : Int))).bind fun y => match y with
      | .x0 w0_3 => (some (w0_3)) else none else none
theorem l_toIntS_D (x0 : List Int) : Ans (l_toIntS_F x0) (fun r => Does E 34 [.one (.s .far () 1 (x0.map etI))] [(false, [.s .own () 1 (r.map etI)])]) := by
  unfold l_toIntS_F
  refine Ans.pre (fun h0 => ?_)
  refine Ans.pre (fun hl1 => ?_)
  refine Ans.bind (fun y hy => ?_)
  replace hy := l_toIntS_L0 x0 x0 0 (List.replicate (x0.length : Int).toNat (0 : Int)) rfl hl1 y hy
  cases y with
  | x0 w0_3 =>
    have h1 := hy
    exact Ans.some (l_toIntS_P0 x0 w0_3 h0 h1)
def p_l_toIntS (l : List Int) : List Int := l
theorem cp_l_toIntS : ∀ (rest : List Int) (i : Nat) (v : List Int), (∀ y ∈ rest, Small.sm y) → v.length = i + rest.length → l_toIntS_l0 rest i v = some (.x0 (v.take i ++ rest))
  | [], i, v, _, hv => by unfold l_toIntS_l0; rw [List.take_of_length_le (by simp at hv; omega)]; simp
  | x :: rest, i, v, h, hv => by
    have hx := h x (by simp)
    have hi : i < v.length := by simp at hv; omega
    unfold l_toIntS_l0
    rw [getI_nat, List.getElem?_eq_getElem hi, Option.bind_some]
    try rw [if_pos hx]
    rw [Int.toNat_natCast, cp_l_toIntS rest (i + 1) _ (fun y hy => h y (by simp [hy])) (by simp at hv ⊢; omega), takeSet hi]
    simp
theorem T_l_toIntS (x0 : List Int) (h : Small.sm x0) : Does E 34 [.one (.s .far () 1 (x0.map etI))] [(false, [.s .own () 1 ((p_l_toIntS x0).map etI)])] := by
  exact l_toIntS_D x0 _ (by
    unfold l_toIntS_F
    rw [if_pos (makeOk 8 (by decide) h.1 rfl), if_pos (sm_wf_len h), cp_l_toIntS x0 0 _ h.2 (by simp)]
    simp [p_l_toIntS])
theorem l_toCron_P0 (x0 : GCron) (h0 : Small.sm x0.f0) (h1 : Small.sm x0.f1) (h2 : Small.sm x0.f2) (h3 : Small.sm x0.f3) (h4 : Small.sm x0.f4) : Does E 17 [.agg (GCron.t .far x0)] [(true, GCron.t .own (GCron.mk (p_l_toIntS x0.f0) (p_l_toIntS x0.f1) (p_l_toIntS x0.f2) (p_l_toIntS x0.f3) (p_l_toIntS x0.f4)))] :=
  Does.path (fn := Try.f17) [.ret [(false, [.s .own () 1 ((p_l_toIntS x0.f0).map etI)])], .ret [(false, [.s .own () 1 ((p_l_toIntS x0.f1).map etI)])], .ret [(false, [.s .own () 1 ((p_l_toIntS x0.f2).map etI)])], .ret [(false, [.s .own () 1 ((p_l_toIntS x0.f3).map etI)])], .ret [(false, [.s .own () 1 ((p_l_toIntS x0.f4).map etI)])]] _ rfl (fun _ => rfl) (fun k => by kernel_rfl) (AD (T_l_toIntS x0.f0 h0) <| AD (T_l_toIntS x0.f1 h1) <| AD (T_l_toIntS x0.f2 h2) <| AD (T_l_toIntS x0.f3 h3) <| AD (T_l_toIntS x0.f4 h4) <| AN)
noncomputable def l_toCron_F (x0 : GCron) : Option (GCron) :=
    if Small.sm x0.f0 then if Small.sm x0.f1 then if Small.sm x0.f2 then if Small.sm x0.f3 then if Small.sm x0.f4 then some ((GCron.mk (p_l_toIntS x0.f0) (p_l_toIntS x0.f1) (p_l_toIntS x0.f2) (p_l_toIntS x0.f3) (p_l_toIntS x0.f4))) else none else none else none else none else none
theorem l_toCron_D (x0 : GCron) : Ans (l_toCron_F x0) (fun r => Does E 17 [.agg (GCron.t .far x0)] [(true, GCron.t .own r)]) := by
  unfold l_toCron_F
  refine Ans.pre (fun h0 => ?_)
  refine Ans.pre (fun h1 => ?_)
  refine Ans.pre (fun h2 => ?_)
  refine Ans.pre (fun h3 => ?_)
  refine Ans.pre (fun h4 => ?_)
  exact Ans.some (l_toCron_P0 x0 h0 h1 h2 h3 h4)
def p_l_toCron (x : GCron) : GCron := x
theorem T_l_toCron (x0 : GCron) (h : Small.sm x0) : Does E 17 [.agg (GCron.t .far x0)] [(true, GCron.t .own (p_l_toCron x0))] := by
  obtain ⟨w0, w1, w2, w3, w4⟩ := h
  exact l_toCron_D x0 _ (by
    unfold l_toCron_F
    repeat rw [if_pos (by assumption)]
    rfl)
inductive l_eqIntS_X0 where
  | ret (v4 : Bool)
  | x0 
def l_eqIntS_Q0 (v0 : List Int) (v1 : List Int) (v5 : Int) : l_eqIntS_X0 → Prop
  | .ret zv4 => Loops E 35 (lpAt Try.f35 0) (stL 26 [(0, .one (.s .far () 1 (v0.map etI))), (1, .one (.s .far () 1 (v1.map etI))), (5, .one (tI v5))]) .ret (stL 26 [(4, .one (tB zv4))])
  | .x0 => Loops E 35 (lpAt Try.f35 0) (stL 26 [(0, .one (.s .far () 1 (v0.map etI))), (1, .one (.s .far () 1 (v1.map etI))), (5, .one (tI v5))]) (.exit 0) (stL 26 [])
theorem l_eqIntS_R0_0 (v0 : List Int) (v1 : List Int) (v5 : Int) (g0 : Int) (g1 : Int) (h0 : (decide (v5 < (v0.length : Int))) = true) (h1 : getI v0 v5 = some g0) (h2 : getI v1 v5 = some g1) (h3 : (g0 != g1) = true) : Round E 35 (lpAt Try.f35 0) (stL 26 [(0, .one (.s .far () 1 (v0.map etI))), (1, .one (.s .far () 1 (v1.map etI))), (5, .one (tI v5))]) .ret (stL 26 [(4, .one (tB false))]) :=
  Round.path [.val (.int .i64 (v0.length : Int)), .b true, .row (etI g0), .row (etI g1), .b true] _ (fun k => by kernel_rfl) (AV (ψ := fun _ => ((v0.map etI).length : Int) = (v0.length : Int)) (Ev.c lenMap) <| AC h0 <| AV (ψ := fun _ => 0 ≤ v5 ∧ (v0.map etI)[v5.toNat]? = some (etI g0)) (Ev.c (getRow h1)) <| AV (ψ := fun _ => 0 ≤ v5 ∧ (v1.map etI)[v5.toNat]? = some (etI g1)) (Ev.c (getRow h2)) <| AC h3 <| AN)
theorem l_eqIntS_R0_1 (v0 : List Int) (v1 : List Int) (v5 : Int) (g0 : Int) (g1 : Int) (h0 : (decide (v5 < (v0.length : Int))) = true) (h1 : getI v0 v5 = some g0) (h2 : getI v1 v5 = some g1) (h3 : (g0 != g1) = false) : Round E 35 (lpAt Try.f35 0) (stL 26 [(0, .one (.s .far () 1 (v0.map etI))), (1, .one (.s .far () 1 (v1.map etI))), (5, .one (tI v5))]) .normal (stL 26 [(0, .one (.s .far () 1 (v0.map etI))), (1, .one (.s .far () 1 (v1.map etI))), (5, .one (tI (inc v5)))]) :=
  Round.path [.val (.int .i64 (v0.length : Int)), .b true, .row (etI g0), .row (etI g1), .b false] _ (fun k => by kernel_rfl) (AV (ψ := fun _ => ((v0.map etI).length : Int) = (v0.length : Int)) (Ev.c lenMap) <| AC h0 <| AV (ψ := fun _ => 0 ≤ v5 ∧ (v0.map etI)[v5.toNat]? = some (etI g0)) (Ev.c (getRow h1)) <| AV (ψ := fun _ => 0 ≤ v5 ∧ (v1.map etI)[v5.toNat]? = some (etI g1)) (Ev.c (getRow h2)) <| AC h3 <| AN)
theorem l_eqIntS_R0_2 (v0 : List Int) (v1 : List Int) (v5 : Int) (h0 : (decide (v5 < (v0.length : Int))) = false) : Round E 35 (lpAt Try.f35 0) (stL 26 [(0, .one (.s .far () 1 (v0.map etI))), (1, .one (.s .far () 1 (v1.map etI))), (5, .one (tI v5))]) (.exit 0) (stL 26 []) :=
  Round.path [.val (.int .i64 (v0.length : Int)), .b false] _ (fun k => by kernel_rfl) (AV (ψ := fun _ => ((v0.map etI).length : Int) = (v0.length : Int)) (Ev.c lenMap) <| AC h0 <| AN)
noncomputable def l_eqIntS_l0 (v1 : List Int) : List Int → Nat → Option l_eqIntS_X0
  | [], i => some (.x0)
  | hd :: rest, i => (getI v1 (i : Int)).bind fun g1 => cond (hd != g1)
    (some (.ret false))
    (l_eqIntS_l0 v1 rest (i + 1))
theorem l_eqIntS_L0 (v0 : List Int) (v1 : List Int) (rest : List Int) : ∀ (i : Nat) , (v0).drop i = rest → v0.length ≤ 9223372036854775807 → Ans (l_eqIntS_l0 v1 rest i) (l_eqIntS_Q0 v0 v1 (i : Int)) := by
  induction rest with
  | nil =>
    intro i hE hl
    have hb := foldEnd hE
    unfold l_eqIntS_l0
    exact Ans.some (Loops.stop (l_eqIntS_R0_2 v0 v1 (i : Int) hb) (by intro h; cases h))
  | cons hd rest ih =>
    intro i hE hl
    have hb := foldMore hE
    have hw := foldNext hE hl
    have hE2 := foldRest hE
    have hg := foldGet hE
    unfold l_eqIntS_l0
    refine Ans.bind (fun g1 h2 => ?_)
    refine Ans.ite (fun h3 => ?_) (fun h3 => ?_)
    · exact Ans.some (Loops.stop (l_eqIntS_R0_0 v0 v1 (i : Int) hd g1 hb hg h2 h3) (by intro h; cases h))
    · exact (ih (i + 1) hE2 hl).mono fun y hy => by have r := l_eqIntS_R0_1 v0 v1 (i : Int) hd g1 hb hg h2 h3; rw [hw] at r; cases y <;> exact Loops.next r hy
theorem l_eqIntS_P0 (x0 : List Int) (x1 : List Int) (h0 : ((x0.length : Int) != (x1.length : Int)) = true) : Does E 35 [.one (.s .far () 1 (x0.map etI)), .one (.s .far () 1 (x1.map etI))] [(false, [tB false])] :=
  Does.path (fn := Try.f35) [.val (.int .i64 (x0.length : Int)), .val (.int .i64 (x1.length : Int)), .b true] _ rfl (fun _ => rfl) (fun k => by kernel_rfl) (AV (ψ := fun _ => ((x0.map etI).length : Int) = (x0.length : Int)) (Ev.c lenMap) <| AV (ψ := fun _ => ((x1.map etI).length : Int) = (x1.length : Int)) (Ev.c lenMap) <| AC h0 <| AN)
theorem l_eqIntS_P1 (x0 : List Int) (x1 : List Int) (w0_4 : Bool) (h0 : ((x0.length : Int) != (x1.length : Int)) = false) (h1 : Loops E 35 (lpAt Try.f35 0) (stL 26 [(0, .one (.s .far () 1 (x0.map etI))), (1, .one (.s .far () 1 (x1.map etI))), (5, .one (tI (0 : Int)))]) .ret (stL 26 [(4, .one (tB w0_4))])) : Does E 35 [.one (.s .far () 1 (x0.map etI)), .one (.s .far () 1 (x1.map etI))] [(false, [tB w0_4])] :=
  Does.path (fn := Try.f35) [.val (.int .i64 (x0.length : Int)), .val (.int .i64 (x1.length : Int)), .b false, .lp .ret (stL 26 [(4, .one (tB w0_4))])] _ rfl (fun _ => rfl) (fun k => by kernel_rfl) (AV (ψ := fun _ => ((x0.map etI).length : Int) = (x0.length : Int)) (Ev.c lenMap) <| AV (ψ := fun _ => ((x1.map etI).length : Int) = (x1.length : Int)) (Ev.c lenMap) <| AC h0 <| AV (ψ := fun k => LoopK E 35 (lpAt Try.f35 0) (stL 26 [(0, .one (.s .far () 1 (x0.map etI))), (1, .one (.s .far () 1 (x1.map etI))), (5, .one (tI (0 : Int)))]) .ret (stL 26 [(4, .one (tB w0_4))]) k k) (Loops.ev h1) <| AN)
theorem l_eqIntS_P2 (x0 : List Int) (x1 : List Int) (h0 : ((x0.length : Int) != (x1.length : Int)) = false) (h1 : Loops E 35 (lpAt Try.f35 0) (stL 26 [(0, .one (.s .far () 1 (x0.map etI))), (1, .one (.s .far () 1 (x1.map etI))), (5, .one (tI (0 : Int)))]) (.exit 0) (stL 26 [])) : Does E 35 [.one (.s .far () 1 (x0.map etI)), .one (.s .far () 1 (x1.map etI))] [(false, [tB true])] :=
  Does.path (fn := Try.f35) [.val (.int .i64 (x0.length : Int)), .val (.int .i64 (x1.length : Int)), .b false, .lp (.exit 0) (stL 26 [])] _ rfl (fun _ => rfl) (fun k => by kernel_rfl) (AV (ψ := fun _ => ((x0.map etI).length : Int) = (x0.length : Int)) (Ev.c lenMap) <| AV (ψ := fun _ => ((x1.map etI).length : Int) = (x1.length : Int)) (Ev.c lenMap) <| AC h0 <| AV (ψ := fun k => LoopK E 35 (lpAt Try.f35 0) (stL 26 [(0, .one (.s .far () 1 (x0.map etI))), (1, .one (.s .far () 1 (x1.map etI))), (5, .one (tI (0 : Int)))]) (.exit 0) (stL 26 []) k k) (Loops.ev h1) <| AN)
noncomputable def l_eqIntS_F (x0 : List Int) (x1 : List Int) : Option (Bool) :=
    cond ((x0.length : Int) != (x1.length : Int))
      (some (false))
      (if x0.length ≤ 9223372036854775807 then (l_eqIntS_l0 x1 x0 0).bind fun y => match y with
        | .ret w0_4 => (some (w0_4))
        | .x0 => (some (true)) else none)
theorem l_eqIntS_D (x0 : List Int) (x1 : List Int) : Ans (l_eqIntS_F x0 x1) (fun r => Does E 35 [.one (.s .far () 1 (x0.map etI)), .one (.s .far () 1 (x1.map etI))] [(false, [tB r])]) := by
  unfold l_eqIntS_F
  refine Ans.ite (fun h0 => ?_) (fun h0 => ?_)
  · exact Ans.some (l_eqIntS_P0 x0 x1 h0)
  · refine Ans.pre (fun hl2 => ?_)
    refine Ans.bind (fun y hy => ?_)
    replace hy := l_eqIntS_L0 x0 x1 x0 0 rfl hl2 y hy
    cases y with
    | ret w0_4 =>
      have h1 := hy
      exact Ans.some (l_eqIntS_P1 x0 x1 w0_4 h0 h1)
    | x0 =>
      have h1 := hy
      exact Ans.some (l_eqIntS_P2 x0 x1 h0 h1)
theorem el_l_eqIntS (l : List Int) : ∀ (rest : List Int) (i : Nat), l.drop i = rest → (∀ y ∈ rest, Small.sm y) → l_eqIntS_l0 l rest i = some .x0
  | [], i, _, _ => rfl
  | x :: rest, i, hE, h => by
    have hx := h x (by simp)
    unfold l_eqIntS_l0
    rw [foldGet hE, Option.bind_some]
    simp only [hx, if_true, yes, bne_self_eq_false, BEq.rfl, Bool.not_true, cond_false, cond_true]
    exact el_l_eqIntS l rest (i + 1) (foldRest hE) (fun y hy => h y (by simp [hy]))
theorem T_l_eqIntS (x0 : List Int) (x1 : List Int) (e : x0 = x1) (h : Small.sm x0) : Does E 35 [.one (.s .far () 1 (x0.map etI)), .one (.s .far () 1 (x1.map etI))] [(false, [tB (yes x0 x1)])] := by
  subst e
  exact l_eqIntS_D x0 x0 _ (by
    unfold l_eqIntS_F
    rw [if_pos (sm_wf_len h), el_l_eqIntS x0 x0 0 rfl h.2]
    simp [yes])
theorem l_eqCron_P0 (x0 : GCron) (x1 : GCron) (h0 : x0.f0 = x1.f0) (h1 : Small.sm x0.f0) (h2 : (yes x0.f0 x1.f0) = true) (h3 : x0.f1 = x1.f1) (h4 : Small.sm x0.f1) (h5 : (yes x0.f1 x1.f1) = true) (h6 : x0.f2 = x1.f2) (h7 : Small.sm x0.f2) (h8 : (yes x0.f2 x1.f2) = true) (h9 : x0.f3 = x1.f3) (h10 : Small.sm x0.f3) (h11 : (yes x0.f3 x1.f3) = true) (h12 : x0.f4 = x1.f4) (h13 : Small.sm x0.f4) (h14 : (yes x0.f4 x1.f4) = true) : Does E 20 [.agg (GCron.t .far x0), .agg (GCron.t .far x1)] [(false, [tB true])] :=
  Does.path (fn := Try.f20) [rT, rT, rT, rT, rT] _ rfl (fun _ => rfl) (fun k => by kernel_rfl) (AD (Does.tB (T_l_eqIntS x0.f0 x1.f0 h0 h1) h2) <| AD (Does.tB (T_l_eqIntS x0.f1 x1.f1 h3 h4) h5) <| AD (Does.tB (T_l_eqIntS x0.f2 x1.f2 h6 h7) h8) <| AD (Does.tB (T_l_eqIntS x0.f3 x1.f3 h9 h10) h11) <| AD (Does.tB (T_l_eqIntS x0.f4 x1.f4 h12 h13) h14) <| AN)
theorem l_eqCron_P1 (x0 : GCron) (x1 : GCron) (h0 : x0.f0 = x1.f0) (h1 : Small.sm x0.f0) (h2 : (yes x0.f0 x1.f0) = true) (h3 : x0.f1 = x1.f1) (h4 : Small.sm x0.f1) (h5 : (yes x0.f1 x1.f1) = true) (h6 : x0.f2 = x1.f2) (h7 : Small.sm x0.f2) (h8 : (yes x0.f2 x1.f2) = true) (h9 : x0.f3 = x1.f3) (h10 : Small.sm x0.f3) (h11 : (yes x0.f3 x1.f3) = true) (h12 : x0.f4 = x1.f4) (h13 : Small.sm x0.f4) (h14 : (yes x0.f4 x1.f4) = false) : Does E 20 [.agg (GCron.t .far x0), .agg (GCron.t .far x1)] [(false, [tB false])] :=
  Does.path (fn := Try.f20) [rT, rT, rT, rT, rF] _ rfl (fun _ => rfl) (fun k => by kernel_rfl) (AD (Does.tB (T_l_eqIntS x0.f0 x1.f0 h0 h1) h2) <| AD (Does.tB (T_l_eqIntS x0.f1 x1.f1 h3 h4) h5) <| AD (Does.tB (T_l_eqIntS x0.f2 x1.f2 h6 h7) h8) <| AD (Does.tB (T_l_eqIntS x0.f3 x1.f3 h9 h10) h11) <| AD (Does.tB (T_l_eqIntS x0.f4 x1.f4 h12 h13) h14) <| AN)
theorem l_eqCron_P2 (x0 : GCron) (x1 : GCron) (h0 : x0.f0 = x1.f0) (h1 : Small.sm x0.f0) (h2 : (yes x0.f0 x1.f0) = true) (h3 : x0.f1 = x1.f1) (h4 : Small.sm x0.f1) (h5 : (yes x0.f1 x1.f1) = true) (h6 : x0.f2 = x1.f2) (h7 : Small.sm x0.f2) (h8 : (yes x0.f2 x1.f2) = true) (h9 : x0.f3 = x1.f3) (h10 : Small.sm x0.f3) (h11 : (yes x0.f3 x1.f3) = false) : Does E 20 [.agg (GCron.t .far x0), .agg (GCron.t .far x1)] [(false, [tB false])] :=
  Does.path (fn := Try.f20) [rT, rT, rT, rF] _ rfl (fun _ => rfl) (fun k => by kernel_rfl) (AD (Does.tB (T_l_eqIntS x0.f0 x1.f0 h0 h1) h2) <| AD (Does.tB (T_l_eqIntS x0.f1 x1.f1 h3 h4) h5) <| AD (Does.tB (T_l_eqIntS x0.f2 x1.f2 h6 h7) h8) <| AD (Does.tB (T_l_eqIntS x0.f3 x1.f3 h9 h10) h11) <| AN)
theorem l_eqCron_P3 (x0 : GCron) (x1 : GCron) (h0 : x0.f0 = x1.f0) (h1 : Small.sm x0.f0) (h2 : (yes x0.f0 x1.f0) = true) (h3 : x0.f1 = x1.f1) (h4 : Small.sm x0.f1) (h5 : (yes x0.f1 x1.f1) = true) (h6 : x0.f2 = x1.f2) (h7 : Small.sm x0.f2) (h8 : (yes x0.f2 x1.f2) = false) : Does E 20 [.agg (GCron.t .far x0), .agg (GCron.t .far x1)] [(false, [tB false])] :=
  Does.path (fn := Try.f20) [rT, rT, rF] _ rfl (fun _ => rfl) (fun k => by kernel_rfl) (AD (Does.tB (T_l_eqIntS x0.f0 x1.f0 h0 h1) h2) <| AD (Does.tB (T_l_eqIntS x0.f1 x1.f1 h3 h4) h5) <| AD (Does.tB (T_l_eqIntS x0.f2 x1.f2 h6 h7) h8) <| AN)
theorem l_eqCron_P4 (x0 : GCron) (x1 : GCron) (h0 : x0.f0 = x1.f0) (h1 : Small.sm x0.f0) (h2 : (yes x0.f0 x1.f0) = true) (h3 : x0.f1 = x1.f1) (h4 : Small.sm x0.f1) (h5 : (yes x0.f1 x1.f1) = false) : Does E 20 [.agg (GCron.t .far x0), .agg (GCron.t .far x1)] [(false, [tB false])] :=
  Does.path (fn := Try.f20) [rT, rF] _ rfl (fun _ => rfl) (fun k => by kernel_rfl) (AD (Does.tB (T_l_eqIntS x0.f0 x1.f0 h0 h1) h2) <| AD (Does.tB (T_l_eqIntS x0.f1 x1.f1 h3 h4) h5) <| AN)
theorem l_eqCron_P5 (x0 : GCron) (x1 : GCron) (h0 : x0.f0 = x1.f0) (h1 : Small.sm x0.f0) (h2 : (yes x0.f0 x1.f0) = false) : Does E 20 [.agg (GCron.t .far x0), .agg (GCron.t .far x1)] [(false, [tB false])] :=
  Does.path (fn := Try.f20) [rF] _ rfl (fun _ => rfl) (fun k => by kernel_rfl) (AD (Does.tB (T_l_eqIntS x0.f0 x1.f0 h0 h1) h2) <| AN)
noncomputable def l_eqCron_F (x0 : GCron) (x1 : GCron) : Option (Bool) :=
    if x0.f0 = x1.f0 then if Small.sm x0.f0 then cond (yes x0.f0 x1.f0)
      (if x0.f1 = x1.f1 then if Small.sm x0.f1 then cond (yes x0.f1 x1.f1)
        (if x0.f2 = x1.f2 then if Small.sm x0.f2 then cond (yes x0.f2 x1.f2)
          (if x0.f3 = x1.f3 then if Small.sm x0.f3 then cond (yes x0.f3 x1.f3)
            (if x0.f4 = x1.f4 then if Small.sm x0.f4 then cond (yes x0.f4 x1.f4)
              (some (true))
              (some (false)) else none else none)
            (some (false)) else none else none)
          (some (false)) else none else none)
        (some (false)) else none else none)
      (some (false)) else none else none
theorem l_eqCron_D (x0 : GCron) (x1 : GCron) : Ans (l_eqCron_F x0 x1) (fun r => Does E 20 [.agg (GCron.t .far x0), .agg (GCron.t .far x1)] [(false, [tB r])]) := by
  unfold l_eqCron_F
  refine Ans.pre (fun h0 => ?_)
  refine Ans.pre (fun h1 => ?_)
  refine Ans.ite (fun h2 => ?_) (fun h2 => ?_)
  · refine Ans.pre (fun h3 => ?_)
    refine Ans.pre (fun h4 => ?_)
    refine Ans.ite (fun h5 => ?_) (fun h5 => ?_)
    · refine Ans.pre (fun h6 => ?_)
      refine Ans.pre (fun h7 => ?_)
      refine Ans.ite (fun h8 => ?_) (fun h8 => ?_)
      · refine Ans.pre (fun h9 => ?_)
        refine Ans.pre (fun h10 => ?_)
        refine Ans.ite (fun h11 => ?_) (fun h11 => ?_)
        · refine Ans.pre (fun h12 => ?_)
          refine Ans.pre (fun h13 => ?_)
          refine Ans.ite (fun h14 => ?_) (fun h14 => ?_)
          · exact Ans.some (l_eqCron_P0 x0 x1 h0 h1 h2 h3 h4 h5 h6 h7 h8 h9 h10 h11 h12 h13 h14)
          · exact Ans.some (l_eqCron_P1 x0 x1 h0 h1 h2 h3 h4 h5 h6 h7 h8 h9 h10 h11 h12 h13 h14)
        · exact Ans.some (l_eqCron_P2 x0 x1 h0 h1 h2 h3 h4 h5 h6 h7 h8 h9 h10 h11)
      · exact Ans.some (l_eqCron_P3 x0 x1 h0 h1 h2 h3 h4 h5 h6 h7 h8)
    · exact Ans.some (l_eqCron_P4 x0 x1 h0 h1 h2 h3 h4 h5)
  · exact Ans.some (l_eqCron_P5 x0 x1 h0 h1 h2)
theorem T_l_eqCron (x0 : GCron) (x1 : GCron) (e : x0 = x1) (h : Small.sm x0) : Does E 20 [.agg (GCron.t .far x0), .agg (GCron.t .far x1)] [(false, [tB (yes x0 x1)])] := by
  subst e
  obtain ⟨w0, w1, w2, w3, w4⟩ := h
  exact l_eqCron_D x0 x0 _ (by
    unfold l_eqCron_F
    simp only [w0, w1, w2, w3, w4, if_true, yes, bne_self_eq_false, BEq.rfl, Bool.not_true, cond_false, cond_true])
theorem l_eqSpan_P0 (x0 : GSpan) (x1 : GSpan) (h0 : (x0.f0 != x1.f0) = true) : Does E 19 [.agg (GSpan.t x0), .agg (GSpan.t x1)] [(false, [tB false])] :=
  Does.path (fn := Try.f19) [.b true] _ rfl (fun _ => rfl) (fun k => by kernel_rfl) (AC h0 <| AN)
theorem l_eqSpan_P1 (x0 : GSpan) (x1 : GSpan) (h0 : (x0.f0 != x1.f0) = false) (h1 : (x0.f1 != x1.f1) = true) : Does E 19 [.agg (GSpan.t x0), .agg (GSpan.t x1)] [(false, [tB false])] :=
  Does.path (fn := Try.f19) [.b false, .b true] _ rfl (fun _ => rfl) (fun k => by kernel_rfl) (AC h0 <| AC h1 <| AN)
theorem l_eqSpan_P2 (x0 : GSpan) (x1 : GSpan) (h0 : (x0.f0 != x1.f0) = false) (h1 : (x0.f1 != x1.f1) = false) : Does E 19 [.agg (GSpan.t x0), .agg (GSpan.t x1)] [(false, [tB true])] :=
  Does.path (fn := Try.f19) [.b false, .b false] _ rfl (fun _ => rfl) (fun k => by kernel_rfl) (AC h0 <| AC h1 <| AN)
noncomputable def l_eqSpan_F (x0 : GSpan) (x1 : GSpan) : Option (Bool) :=
    cond (x0.f0 != x1.f0)
      (some (false))
      (cond (x0.f1 != x1.f1)
        (some (false))
        (some (true)))
theorem l_eqSpan_D (x0 : GSpan) (x1 : GSpan) : Ans (l_eqSpan_F x0 x1) (fun r => Does E 19 [.agg (GSpan.t x0), .agg (GSpan.t x1)] [(false, [tB r])]) := by
  unfold l_eqSpan_F
  refine Ans.ite (fun h0 => ?_) (fun h0 => ?_)
  · exact Ans.some (l_eqSpan_P0 x0 x1 h0)
  · refine Ans.ite (fun h1 => ?_) (fun h1 => ?_)
    · exact Ans.some (l_eqSpan_P1 x0 x1 h0 h1)
    · exact Ans.some (l_eqSpan_P2 x0 x1 h0 h1)
theorem T_l_eqSpan (x0 : GSpan) (x1 : GSpan) (e : x0 = x1) (h : Small.sm x0) : Does E 19 [.agg (GSpan.t x0), .agg (GSpan.t x1)] [(false, [tB (yes x0 x1)])] := by
  subst e
  skip
  exact l_eqSpan_D x0 x0 _ (by
    unfold l_eqSpan_F
    simp only [if_true, yes, bne_self_eq_false, BEq.rfl, Bool.not_true, cond_false, cond_true])
end Go.Proofs.Ytalapefcbodhaaa.Am
namespace Go.Proofs.Ytalapefcbodhaaa.Am
set_option linter.unusedVariables false
set_option linter.unusedSimpArgs false
open Go Go.Proofs Classical
set_option maxRecDepth 100000
set_option linter.unusedVariables false
set_option linter.unusedSimpArgs false
def inRange (x a b : Int) : Bool := decide (x ≥ a) && decide (x ≤ b)
theorem inRange_get {α : Type} {l : List α} {k : Int} (h : inRange k 0 (IntKind.wrap .i64 ((l.length : Int) - 1)) = true) (hl : l.length ≤ 1050000) : 0 ≤ k ∧ k < (l.length : Int) := by
  unfold inRange at h
  rw [wrap_id _ (by omega) (by omega)] at h
  simp only [Bool.and_eq_true, decide_eq_true_eq] at h
  omega
theorem getI_in {α : Type} {l : List α} {k : Int} (h : 0 ≤ k ∧ k < (l.length : Int)) : ∃ x, getI l k = some x ∧ x ∈ l := by
  unfold getI
  rw [if_pos h.1, List.getElem?_eq_getElem (by omega)]
  exact ⟨_, rfl, List.getElem_mem _⟩
theorem sm_set {α : Type} [Small α] {l : List α} {n : Nat} {x : α} (h : Small.sm l) (hx : Small.sm x) : Small.sm (l.set n x) :=
  ⟨by rw [List.length_set]; exact h.1, fun y hy => by rcases List.mem_or_eq_of_mem_set hy with h' | rfl; exact h.2 _ h'; exact hx⟩
theorem sm_nil {α : Type} [Small α] : Small.sm ([] : List α) := ⟨Nat.zero_le _, fun y hy => by cases hy⟩
theorem sm_empty : Small.sm ByteArray.empty := Nat.zero_le 1050000
theorem s_l01In_P0 (x0 : Int) (x1 : Int) (x2 : Int) (h0 : (decide (x0 ≥ x1)) = true) : Does E 29 [.one (tI x0), .one (tI x1), .one (tI x2)] [(false, [tB (decide (x0 ≤ x2))])] :=
  Does.path (fn := Try.f29) [.b true] _ rfl (fun _ => rfl) (fun k => by kernel_rfl) (AC h0 <| AN)
theorem s_l01In_P1 (x0 : Int) (x1 : Int) (x2 : Int) (h0 : (decide (x0 ≥ x1)) = false) : Does E 29 [.one (tI x0), .one (tI x1), .one (tI x2)] [(false, [tB false])] :=
  Does.path (fn := Try.f29) [.b false] _ rfl (fun _ => rfl) (fun k => by kernel_rfl) (AC h0 <| AN)
noncomputable def s_l01In_F (x0 : Int) (x1 : Int) (x2 : Int) : Option (Bool) :=
    cond (decide (x0 ≥ x1))
      (some (decide (x0 ≤ x2)))
      (some (false))
theorem s_l01In_D (x0 : Int) (x1 : Int) (x2 : Int) : Ans (s_l01In_F x0 x1 x2) (fun r => Does E 29 [.one (tI x0), .one (tI x1), .one (tI x2)] [(false, [tB r])]) := by
  unfold s_l01In_F
  refine Ans.ite (fun h0 => ?_) (fun h0 => ?_)
  · exact Ans.some (s_l01In_P0 x0 x1 x2 h0)
  · exact Ans.some (s_l01In_P1 x0 x1 x2 h0)
theorem T_s_l01In (x0 : Int) (x1 : Int) (x2 : Int) : Does E 29 [.one (tI x0), .one (tI x1), .one (tI x2)] [(false, [tB (inRange x0 x1 x2)])] := by
  exact s_l01In_D x0 x1 x2 _ (by unfold s_l01In_F inRange; cases decide (x0 ≥ x1) <;> rfl)
theorem i_inRange_P0 (x0 : Int) (x1 : Int) (x2 : Int) (h0 : (decide (x0 ≥ x1)) = true) : Does E 39 [.one (tI x0), .one (tI x1), .one (tI x2)] [(false, [tB (decide (x0 ≤ x2))])] :=
  Does.path (fn := Try.f39) [.b true] _ rfl (fun _ => rfl) (fun k => by kernel_rfl) (AC h0 <| AN)
theorem i_inRange_P1 (x0 : Int) (x1 : Int) (x2 : Int) (h0 : (decide (x0 ≥ x1)) = false) : Does E 39 [.one (tI x0), .one (tI x1), .one (tI x2)] [(false, [tB false])] :=
  Does.path (fn := Try.f39) [.b false] _ rfl (fun _ => rfl) (fun k => by kernel_rfl) (AC h0 <| AN)
noncomputable def i_inRange_F (x0 : Int) (x1 : Int) (x2 : Int) : Option (Bool) :=
    cond (decide (x0 ≥ x1))
      (some (decide (x0 ≤ x2)))
      (some (false))
theorem i_inRange_D (x0 : Int) (x1 : Int) (x2 : Int) : Ans (i_inRange_F x0 x1 x2) (fun r => Does E 39 [.one (tI x0), .one (tI x1), .one (tI x2)] [(false, [tB r])]) := by
  unfold i_inRange_F
  refine Ans.ite (fun h0 => ?_) (fun h0 => ?_)
  · exact Ans.some (i_inRange_P0 x0 x1 x2 h0)
  · exact Ans.some (i_inRange_P1 x0 x1 x2 h0)
theorem T_i_inRange (x0 : Int) (x1 : Int) (x2 : Int) : Does E 39 [.one (tI x0), .one (tI x1), .one (tI x2)] [(false, [tB (inRange x0 x1 x2)])] := by
  exact i_inRange_D x0 x1 x2 _ (by unfold i_inRange_F inRange; cases decide (x0 ≥ x1) <;> rfl)
theorem s_LeapYear_P0 (x0 : Int) (h0 : ((Int.tmod x0 (4 : Int)) == (0 : Int)) = true) (h1 : ((Int.tmod x0 (100 : Int)) != (0 : Int)) = true) : Does E 56 [.one (tI x0)] [(false, [tB true])] :=
  Does.path (fn := Try.f56) [.no, .b true, .no, .b true] _ rfl (fun _ => rfl) (fun k => by kernel_rfl) (AC h0 <| AC h1 <| AN)
theorem s_LeapYear_P1 (x0 : Int) (h0 : ((Int.tmod x0 (4 : Int)) == (0 : Int)) = true) (h1 : ((Int.tmod x0 (100 : Int)) != (0 : Int)) = false) : Does E 56 [.one (tI x0)] [(false, [tB ((Int.tmod x0 (400 : Int)) == (0 : Int))])] :=
  Does.path (fn := Try.f56) [.no, .b true, .no, .b false] _ rfl (fun _ => rfl) (fun k => by kernel_rfl) (AC h0 <| AC h1 <| AN)
theorem s_LeapYear_P2 (x0 : Int) (h0 : ((Int.tmod x0 (4 : Int)) == (0 : Int)) = false) : Does E 56 [.one (tI x0)] [(false, [tB ((Int.tmod x0 (400 : Int)) == (0 : Int))])] :=
  Does.path (fn := Try.f56) [.no, .b false] _ rfl (fun _ => rfl) (fun k => by kernel_rfl) (AC h0 <| AN)
noncomputable def s_LeapYear_F (x0 : Int) : Option (Bool) :=
    cond ((Int.tmod x0 (4 : Int)) == (0 : Int))
      (cond ((Int.tmod x0 (100 : Int)) != (0 : Int))
        (some (true))
        (some ((Int.tmod x0 (400 : Int)) == (0 : Int))))
      (some ((Int.tmod x0 (400 : Int)) == (0 : Int)))
theorem s_LeapYear_D (x0 : Int) : Ans (s_LeapYear_F x0) (fun r => Does E 56 [.one (tI x0)] [(false, [tB r])]) := by
  unfold s_LeapYear_F
  refine Ans.ite (fun h0 => ?_) (fun h0 => ?_)
  · refine Ans.ite (fun h1 => ?_) (fun h1 => ?_)
    · exact Ans.some (s_LeapYear_P0 x0 h0 h1)
    · exact Ans.some (s_LeapYear_P1 x0 h0 h1)
  · exact Ans.some (s_LeapYear_P2 x0 h0)
def leapYear (y : Int) : Bool := (Int.tmod y 4 == 0) && (Int.tmod y 100 != 0) || (Int.tmod y 400 == 0)
theorem T_s_LeapYear (x0 : Int) : Does E 56 [.one (tI x0)] [(false, [tB (leapYear x0)])] := by
  exact s_LeapYear_D x0 _ (by unfold s_LeapYear_F leapYear; cases Int.tmod x0 4 == 0 <;> cases Int.tmod x0 100 != 0 <;> rfl)
theorem i_LeapYear_P0 (x0 : Int) (h0 : ((Int.tmod x0 (4 : Int)) == (0 : Int)) = true) (h1 : ((Int.tmod x0 (100 : Int)) != (0 : Int)) = true) : Does E 57 [.one (tI x0)] [(false, [tB true])] :=
  Does.path (fn := Try.f57) [.no, .b true, .no, .b true] _ rfl (fun _ => rfl) (fun k => by kernel_rfl) (AC h0 <| AC h1 <| AN)
theorem i_LeapYear_P1 (x0 : Int) (h0 : ((Int.tmod x0 (4 : Int)) == (0 : Int)) = true) (h1 : ((Int.tmod x0 (100 : Int)) != (0 : Int)) = false) : Does E 57 [.one (tI x0)] [(false, [tB ((Int.tmod x0 (400 : Int)) == (0 : Int))])] :=
  Does.path (fn := Try.f57) [.no, .b true, .no, .b false] _ rfl (fun _ => rfl) (fun k => by kernel_rfl) (AC h0 <| AC h1 <| AN)
theorem i_LeapYear_P2 (x0 : Int) (h0 : ((Int.tmod x0 (4 : Int)) == (0 : Int)) = false) : Does E 57 [.one (tI x0)] [(false, [tB ((Int.tmod x0 (400 : Int)) == (0 : Int))])] :=
  Does.path (fn := Try.f57) [.no, .b false] _ rfl (fun _ => rfl) (fun k => by kernel_rfl) (AC h0 <| AN)
noncomputable def i_LeapYear_F (x0 : Int) : Option (Bool) :=
    cond ((Int.tmod x0 (4 : Int)) == (0 : Int))
      (cond ((Int.tmod x0 (100 : Int)) != (0 : Int))
        (some (true))
        (some ((Int.tmod x0 (400 : Int)) == (0 : Int))))
      (some ((Int.tmod x0 (400 : Int)) == (0 : Int)))
theorem i_LeapYear_D (x0 : Int) : Ans (i_LeapYear_F x0) (fun r => Does E 57 [.one (tI x0)] [(false, [tB r])]) := by
  unfold i_LeapYear_F
  refine Ans.ite (fun h0 => ?_) (fun h0 => ?_)
  · refine Ans.ite (fun h1 => ?_) (fun h1 => ?_)
    · exact Ans.some (i_LeapYear_P0 x0 h0 h1)
    · exact Ans.some (i_LeapYear_P1 x0 h0 h1)
  · exact Ans.some (i_LeapYear_P2 x0 h0)
theorem T_i_LeapYear (x0 : Int) : Does E 57 [.one (tI x0)] [(false, [tB (leapYear x0)])] := by
  exact i_LeapYear_D x0 _ (by unfold i_LeapYear_F leapYear; cases Int.tmod x0 4 == 0 <;> cases Int.tmod x0 100 != 0 <;> rfl)
theorem i_DaysIn_P0 (x0 : Int) (x1 : Int) (h0 : (x1 == (1 : Int)) = true) : Does E 53 [.one (tI x0), .one (tI x1)] [(false, [tI (31 : Int)])] :=
  Does.path (fn := Try.f53) [.b true] _ rfl (fun _ => rfl) (fun k => by kernel_rfl) (AC h0 <| AN)
theorem i_DaysIn_P1 (x0 : Int) (x1 : Int) (h0 : (x1 == (1 : Int)) = false) (h1 : (x1 == (3 : Int)) = true) : Does E 53 [.one (tI x0), .one (tI x1)] [(false, [tI (31 : Int)])] :=
  Does.path (fn := Try.f53) [.b false, .b true] _ rfl (fun _ => rfl) (fun k => by kernel_rfl) (AC h0 <| AC h1 <| AN)
theorem i_DaysIn_P2 (x0 : Int) (x1 : Int) (h0 : (x1 == (1 : Int)) = false) (h1 : (x1 == (3 : Int)) = false) (h2 : (x1 == (5 : Int)) = true) : Does E 53 [.one (tI x0), .one (tI x1)] [(false, [tI (31 : Int)])] :=
  Does.path (fn := Try.f53) [.b false, .b false, .b true] _ rfl (fun _ => rfl) (fun k => by kernel_rfl) (AC h0 <| AC h1 <| AC h2 <| AN)
theorem i_DaysIn_P3 (x0 : Int) (x1 : Int) (h0 : (x1 == (1 : Int)) = false) (h1 : (x1 == (3 : Int)) = false) (h2 : (x1 == (5 : Int)) = false) (h3 : (x1 == (7 : Int)) = true) : Does E 53 [.one (tI x0), .one (tI x1)] [(false, [tI (31 : Int)])] :=
  Does.path (fn := Try.f53) [.b false, .b false, .b false, .b true] _ rfl (fun _ => rfl) (fun k => by kernel_rfl) (AC h0 <| AC h1 <| AC h2 <| AC h3 <| AN)
theorem i_DaysIn_P4 (x0 : Int) (x1 : Int) (h0 : (x1 == (1 : Int)) = false) (h1 : (x1 == (3 : Int)) = false) (h2 : (x1 == (5 : Int)) = false) (h3 : (x1 == (7 : Int)) = false) (h4 : (x1 == (8 : Int)) = true) : Does E 53 [.one (tI x0), .one (tI x1)] [(false, [tI (31 : Int)])] :=
  Does.path (fn := Try.f53) [.b false, .b false, .b false, .b false, .b true] _ rfl (fun _ => rfl) (fun k => by kernel_rfl) (AC h0 <| AC h1 <| AC h2 <| AC h3 <| AC h4 <| AN)
theorem i_DaysIn_P5 (x0 : Int) (x1 : Int) (h0 : (x1 == (1 : Int)) = false) (h1 : (x1 == (3 : Int)) = false) (h2 : (x1 == (5 : Int)) = false) (h3 : (x1 == (7 : Int)) = false) (h4 : (x1 == (8 : Int)) = false) (h5 : (x1 == (10 : Int)) = true) : Does E 53 [.one (tI x0), .one (tI x1)] [(false, [tI (31 : Int)])] :=
  Does.path (fn := Try.f53) [.b false, .b false, .b false, .b false, .b false, .b true] _ rfl (fun _ => rfl) (fun k => by kernel_rfl) (AC h0 <| AC h1 <| AC h2 <| AC h3 <| AC h4 <| AC h5 <| AN)
theorem i_DaysIn_P6 (x0 : Int) (x1 : Int) (h0 : (x1 == (1 : Int)) = false) (h1 : (x1 == (3 : Int)) = false) (h2 : (x1 == (5 : Int)) = false) (h3 : (x1 == (7 : Int)) = false) (h4 : (x1 == (8 : Int)) = false) (h5 : (x1 == (10 : Int)) = false) (h6 : (x1 == (12 : Int)) = true) : Does E 53 [.one (tI x0), .one (tI x1)] [(false, [tI (31 : Int)])] :=
  Does.path (fn := Try.f53) [.b false, .b false, .b false, .b false, .b false, .b false, .b true] _ rfl (fun _ => rfl) (fun k => by kernel_rfl) (AC h0 <| AC h1 <| AC h2 <| AC h3 <| AC h4 <| AC h5 <| AC h6 <| AN)
theorem i_DaysIn_P7 (x0 : Int) (x1 : Int) (h0 : (x1 == (1 : Int)) = false) (h1 : (x1 == (3 : Int)) = false) (h2 : (x1 == (5 : Int)) = false) (h3 : (x1 == (7 : Int)) = false) (h4 : (x1 == (8 : Int)) = false) (h5 : (x1 == (10 : Int)) = false) (h6 : (x1 == (12 : Int)) = false) (h7 : (x1 == (4 : Int)) = true) : Does E 53 [.one (tI x0), .one (tI x1)] [(false, [tI (30 : Int)])] :=
  Does.path (fn := Try.f53) [.b false, .b false, .b false, .b false, .b false, .b false, .b false, .b true] _ rfl (fun _ => rfl) (fun k => by kernel_rfl) (AC h0 <| AC h1 <| AC h2 <| AC h3 <| AC h4 <| AC h5 <| AC h6 <| AC h7 <| AN)
theorem i_DaysIn_P8 (x0 : Int) (x1 : Int) (h0 : (x1 == (1 : Int)) = false) (h1 : (x1 == (3 : Int)) = false) (h2 : (x1 == (5 : Int)) = false) (h3 : (x1 == (7 : Int)) = false) (h4 : (x1 == (8 : Int)) = false) (h5 : (x1 == (10 : Int)) = false) (h6 : (x1 == (12 : Int)) = false) (h7 : (x1 == (4 : Int)) = false) (h8 : (x1 == (6 : Int)) = true) : Does E 53 [.one (tI x0), .one (tI x1)] [(false, [tI (30 : Int)])] :=
  Does.path (fn := Try.f53) [.b false, .b false, .b false, .b false, .b false, .b false, .b false, .b false, .b true] _ rfl (fun _ => rfl) (fun k => by kernel_rfl) (AC h0 <| AC h1 <| AC h2 <| AC h3 <| AC h4 <| AC h5 <| AC h6 <| AC h7 <| AC h8 <| AN)
theorem i_DaysIn_P9 (x0 : Int) (x1 : Int) (h0 : (x1 == (1 : Int)) = false) (h1 : (x1 == (3 : Int)) = false) (h2 : (x1 == (5 : Int)) = false) (h3 : (x1 == (7 : Int)) = false) (h4 : (x1 == (8 : Int)) = false) (h5 : (x1 == (10 : Int)) = false) (h6 : (x1 == (12 : Int)) = false) (h7 : (x1 == (4 : Int)) = false) (h8 : (x1 == (6 : Int)) = false) (h9 : (x1 == (9 : Int)) = true) : Does E 53 [.one (tI x0), .one (tI x1)] [(false, [tI (30 : Int)])] :=
  Does.path (fn := Try.f53) [.b false, .b false, .b false, .b false, .b false, .b false, .b false, .b false, .b false, .b true] _ rfl (fun _ => rfl) (fun k => by kernel_rfl) (AC h0 <| AC h1 <| AC h2 <| AC h3 <| AC h4 <| AC h5 <| AC h6 <| AC h7 <| AC h8 <| AC h9 <| AN)
theorem i_DaysIn_P10 (x0 : Int) (x1 : Int) (h0 : (x1 == (1 : Int)) = false) (h1 : (x1 == (3 : Int)) = false) (h2 : (x1 == (5 : Int)) = false) (h3 : (x1 == (7 : Int)) = false) (h4 : (x1 == (8 : Int)) = false) (h5 : (x1 == (10 : Int)) = false) (h6 : (x1 == (12 : Int)) = false) (h7 : (x1 == (4 : Int)) = false) (h8 : (x1 == (6 : Int)) = false) (h9 : (x1 == (9 : Int)) = false) (h10 : (x1 == (11 : Int)) = true) : Does E 53 [.one (tI x0), .one (tI x1)] [(false, [tI (30 : Int)])] :=
  Does.path (fn := Try.f53) [.b false, .b false, .b false, .b false, .b false, .b false, .b false, .b false, .b false, .b false, .b true] _ rfl (fun _ => rfl) (fun k => by kernel_rfl) (AC h0 <| AC h1 <| AC h2 <| AC h3 <| AC h4 <| AC h5 <| AC h6 <| AC h7 <| AC h8 <| AC h9 <| AC h10 <| AN)
theorem i_DaysIn_P11 (x0 : Int) (x1 : Int) (h0 : (x1 == (1 : Int)) = false) (h1 : (x1 == (3 : Int)) = false) (h2 : (x1 == (5 : Int)) = false) (h3 : (x1 == (7 : Int)) = false) (h4 : (x1 == (8 : Int)) = false) (h5 : (x1 == (10 : Int)) = false) (h6 : (x1 == (12 : Int)) = false) (h7 : (x1 == (4 : Int)) = false) (h8 : (x1 == (6 : Int)) = false) (h9 : (x1 == (9 : Int)) = false) (h10 : (x1 == (11 : Int)) = false) (h11 : (x1 == (2 : Int)) = true) (h12 : (leapYear x0) = true) : Does E 53 [.one (tI x0), .one (tI x1)] [(false, [tI (29 : Int)])] :=
  Does.path (fn := Try.f53) [.b false, .b false, .b false, .b false, .b false, .b false, .b false, .b false, .b false, .b false, .b false, .b true, rT] _ rfl (fun _ => rfl) (fun k => by kernel_rfl) (AC h0 <| AC h1 <| AC h2 <| AC h3 <| AC h4 <| AC h5 <| AC h6 <| AC h7 <| AC h8 <| AC h9 <| AC h10 <| AC h11 <| AD (Does.tB (T_i_LeapYear x0) h12) <| AN)
theorem i_DaysIn_P12 (x0 : Int) (x1 : Int) (h0 : (x1 == (1 : Int)) = false) (h1 : (x1 == (3 : Int)) = false) (h2 : (x1 == (5 : Int)) = false) (h3 : (x1 == (7 : Int)) = false) (h4 : (x1 == (8 : Int)) = false) (h5 : (x1 == (10 : Int)) = false) (h6 : (x1 == (12 : Int)) = false) (h7 : (x1 == (4 : Int)) = false) (h8 : (x1 == (6 : Int)) = false) (h9 : (x1 == (9 : Int)) = false) (h10 : (x1 == (11 : Int)) = false) (h11 : (x1 == (2 : Int)) = true) (h12 : (leapYear x0) = false) : Does E 53 [.one (tI x0), .one (tI x1)] [(false, [tI (28 : Int)])] :=
  Does.path (fn := Try.f53) [.b false, .b false, .b false, .b false, .b false, .b false, .b false, .b false, .b false, .b false, .b false, .b true, rF] _ rfl (fun _ => rfl) (fun k => by kernel_rfl) (AC h0 <| AC h1 <| AC h2 <| AC h3 <| AC h4 <| AC h5 <| AC h6 <| AC h7 <| AC h8 <| AC h9 <| AC h10 <| AC h11 <| AD (Does.tB (T_i_LeapYear x0) h12) <| AN)
theorem i_DaysIn_P13 (x0 : Int) (x1 : Int) (h0 : (x1 == (1 : Int)) = false) (h1 : (x1 == (3 : Int)) = false) (h2 : (x1 == (5 : Int)) = false) (h3 : (x1 == (7 : Int)) = false) (h4 : (x1 == (8 : Int)) = false) (h5 : (x1 == (10 : Int)) = false) (h6 : (x1 == (12 : Int)) = false) (h7 : (x1 == (4 : Int)) = false) (h8 : (x1 == (6 : Int)) = false) (h9 : (x1 == (9 : Int)) = false) (h10 : (x1 == (11 : Int)) = false) (h11 : (x1 == (2 : Int)) = false) : Does E 53 [.one (tI x0), .one (tI x1)] [(false, [tI (0 : Int)])] :=
  Does.path (fn := Try.f53) [.b false, .b false, .b false, .b false, .b false, .b false, .b false, .b false, .b false, .b false, .b false, .b false] _ rfl (fun _ => rfl) (fun k => by kernel_rfl) (AC h0 <| AC h1 <| AC h2 <| AC h3 <| AC h4 <| AC h5 <| AC h6 <| AC h7 <| AC h8 <| AC h9 <| AC h10 <| AC h11 <| AN)
noncomputable def i_DaysIn_F (x0 : Int) (x1 : Int) : Option (Int) :=
    cond (x1 == (1 : Int))
      (some ((31 : Int)))
      (cond (x1 == (3 : Int))
        (some ((31 : Int)))
        (cond (x1 == (5 : Int))
          (some ((31 : Int)))
          (cond (x1 == (7 : Int))
            (some ((31 : Int)))
            (cond (x1 == (8 : Int))
              (some ((31 : Int)))
              (cond (x1 == (10 : Int))
                (some ((31 : Int)))
                (cond (x1 == (12 : Int))
                  (some ((31 : Int)))
                  (cond (x1 == (4 : Int))
                    (some ((30 : Int)))
                    (cond (x1 == (6 : Int))
                      (some ((30 : Int)))
                      (cond (x1 == (9 : Int))
                        (some ((30 : Int)))
                        (cond (x1 == (11 : Int))
                          (some ((30 : Int)))
                          (cond (x1 == (2 : Int))
                            (cond (leapYear x0)
                              (some ((29 : Int)))
                              (some ((28 : Int))))
                            (some ((0 : Int))))))))))))))
theorem i_DaysIn_D (x0 : Int) (x1 : Int) : Ans (i_DaysIn_F x0 x1) (fun r => Does E 53 [.one (tI x0), .one (tI x1)] [(false, [tI r])]) := by
  unfold i_DaysIn_F
  refine Ans.ite (fun h0 => ?_) (fun h0 => ?_)
  · exact Ans.some (i_DaysIn_P0 x0 x1 h0)
  · refine Ans.ite (fun h1 => ?_) (fun h1 => ?_)
    · exact Ans.some (i_DaysIn_P1 x0 x1 h0 h1)
    · refine Ans.ite (fun h2 => ?_) (fun h2 => ?_)
      · exact Ans.some (i_DaysIn_P2 x0 x1 h0 h1 h2)
      · refine Ans.ite (fun h3 => ?_) (fun h3 => ?_)
        · exact Ans.some (i_DaysIn_P3 x0 x1 h0 h1 h2 h3)
        · refine Ans.ite (fun h4 => ?_) (fun h4 => ?_)
          · exact Ans.some (i_DaysIn_P4 x0 x1 h0 h1 h2 h3 h4)
          · refine Ans.ite (fun h5 => ?_) (fun h5 => ?_)
            · exact Ans.some (i_DaysIn_P5 x0 x1 h0 h1 h2 h3 h4 h5)
            · refine Ans.ite (fun h6 => ?_) (fun h6 => ?_)
              · exact Ans.some (i_DaysIn_P6 x0 x1 h0 h1 h2 h3 h4 h5 h6)
              · refine Ans.ite (fun h7 => ?_) (fun h7 => ?_)
                · exact Ans.some (i_DaysIn_P7 x0 x1 h0 h1 h2 h3 h4 h5 h6 h7)
                · refine Ans.ite (fun h8 => ?_) (fun h8 => ?_)
                  · exact Ans.some (i_DaysIn_P8 x0 x1 h0 h1 h2 h3 h4 h5 h6 h7 h8)
                  · refine Ans.ite (fun h9 => ?_) (fun h9 => ?_)
                    · exact Ans.some (i_DaysIn_P9 x0 x1 h0 h1 h2 h3 h4 h5 h6 h7 h8 h9)
                    · refine Ans.ite (fun h10 => ?_) (fun h10 => ?_)
                      · exact Ans.some (i_DaysIn_P10 x0 x1 h0 h1 h2 h3 h4 h5 h6 h7 h8 h9 h10)
                      · refine Ans.ite (fun h11 => ?_) (fun h11 => ?_)
                        · refine Ans.ite (fun h12 => ?_) (fun h12 => ?_)
                          · exact Ans.some (i_DaysIn_P11 x0 x1 h0 h1 h2 h3 h4 h5 h6 h7 h8 h9 h10 h11 h12)
                          · exact Ans.some (i_DaysIn_P12 x0 x1 h0 h1 h2 h3 h4 h5 h6 h7 h8 h9 h10 h11 h12)
                        · exact Ans.some (i_DaysIn_P13 x0 x1 h0 h1 h2 h3 h4 h5 h6 h7 h8 h9 h10 h11)
noncomputable def daysIn (y m : Int) : Int := (i_DaysIn_F y m).getD 0
theorem i_DaysIn_tot (y m : Int) : i_DaysIn_F y m = some (daysIn y m) := by
  refine Tot.getD ?_ _
  unfold i_DaysIn_F
  repeat' (first | exact Tot.some _ | apply Tot.cond)
theorem T_i_DaysIn (x0 : Int) (x1 : Int) : Does E 53 [.one (tI x0), .one (tI x1)] [(false, [tI (daysIn x0 x1)])] := by
  exact i_DaysIn_D x0 x1 _ (i_DaysIn_tot x0 x1)
theorem s_DaysIn_P0 (x0 : Int) (x1 : Int) (h0 : (inRange x1 (1 : Int) (12 : Int)) = true) (h1 : (x1 == (2 : Int)) = true) (h2 : (leapYear x0) = true) : Does E 51 [.one (tI x0), .one (tI x1)] [(false, [tI (29 : Int)])] :=
  Does.path (fn := Try.f51) [rT, .b true, rT] _ rfl (fun _ => rfl) (fun k => by kernel_rfl) (AD (Does.tB (T_s_l01In x1 (1 : Int) (12 : Int)) h0) <| AC h1 <| AD (Does.tB (T_s_LeapYear x0) h2) <| AN)
theorem s_DaysIn_P1 (x0 : Int) (x1 : Int) (g0 : Int) (h0 : (inRange x1 (1 : Int) (12 : Int)) = true) (h1 : (x1 == (2 : Int)) = true) (h2 : (leapYear x0) = false) (h3 : getI ([(31 : Int), (28 : Int), (31 : Int), (30 : Int), (31 : Int), (30 : Int), (31 : Int), (31 : Int), (30 : Int), (31 : Int), (30 : Int), (31 : Int)]) (IntKind.wrap .i64 (x1 - (1 : Int))) = some g0) : Does E 51 [.one (tI x0), .one (tI x1)] [(false, [tI g0])] :=
  Does.path (fn := Try.f51) [rT, .b true, rF, .row (etI g0)] _ rfl (fun _ => rfl) (fun k => by kernel_rfl) (AD (Does.tB (T_s_l01In x1 (1 : Int) (12 : Int)) h0) <| AC h1 <| AD (Does.tB (T_s_LeapYear x0) h2) <| AV (ψ := fun _ => 0 ≤ (IntKind.wrap .i64 (x1 - (1 : Int))) ∧ (IntKind.wrap .i64 (x1 - (1 : Int))) < ((([(31 : Int), (28 : Int), (31 : Int), (30 : Int), (31 : Int), (30 : Int), (31 : Int), (31 : Int), (30 : Int), (31 : Int), (30 : Int), (31 : Int)]).map etI).length : Int)) (Ev.c (getLt h3)) <| AV (ψ := fun _ => (([(31 : Int), (28 : Int), (31 : Int), (30 : Int), (31 : Int), (30 : Int), (31 : Int), (31 : Int), (30 : Int), (31 : Int), (30 : Int), (31 : Int)]).map etI)[0 + (IntKind.wrap .i64 (x1 - (1 : Int))).toNat]? = some (etI g0)) (Ev.c (getRow0 h3)) <| AN)
theorem s_DaysIn_P2 (x0 : Int) (x1 : Int) (g0 : Int) (h0 : (inRange x1 (1 : Int) (12 : Int)) = true) (h1 : (x1 == (2 : Int)) = false) (h2 : getI ([(31 : Int), (28 : Int), (31 : Int), (30 : Int), (31 : Int), (30 : Int), (31 : Int), (31 : Int), (30 : Int), (31 : Int), (30 : Int), (31 : Int)]) (IntKind.wrap .i64 (x1 - (1 : Int))) = some g0) : Does E 51 [.one (tI x0), .one (tI x1)] [(false, [tI g0])] :=
  Does.path (fn := Try.f51) [rT, .b false, .row (etI g0)] _ rfl (fun _ => rfl) (fun k => by kernel_rfl) (AD (Does.tB (T_s_l01In x1 (1 : Int) (12 : Int)) h0) <| AC h1 <| AV (ψ := fun _ => 0 ≤ (IntKind.wrap .i64 (x1 - (1 : Int))) ∧ (IntKind.wrap .i64 (x1 - (1 : Int))) < ((([(31 : Int), (28 : Int), (31 : Int), (30 : Int), (31 : Int), (30 : Int), (31 : Int), (31 : Int), (30 : Int), (31 : Int), (30 : Int), (31 : Int)]).map etI).length : Int)) (Ev.c (getLt h2)) <| AV (ψ := fun _ => (([(31 : Int), (28 : Int), (31 : Int), (30 : Int), (31 : Int), (30 : Int), (31 : Int), (31 : Int), (30 : Int), (31 : Int), (30 : Int), (31 : Int)]).map etI)[0 + (IntKind.wrap .i64 (x1 - (1 : Int))).toNat]? = some (etI g0)) (Ev.c (getRow0 h2)) <| AN)
theorem s_DaysIn_P3 (x0 : Int) (x1 : Int) (h0 : (inRange x1 (1 : Int) (12 : Int)) = false) : Does E 51 [.one (tI x0), .one (tI x1)] [(false, [tI (0 : Int)])] :=
  Does.path (fn := Try.f51) [rF] _ rfl (fun _ => rfl) (fun k => by kernel_rfl) (AD (Does.tB (T_s_l01In x1 (1 : Int) (12 : Int)) h0) <| AN)
noncomputable def s_DaysIn_F (x0 : Int) (x1 : Int) : Option (Int) :=
    cond (inRange x1 (1 : Int) (12 : Int))
      (cond (x1 == (2 : Int))
        (cond (leapYear x0)
          (some ((29 : Int)))
          ((getI ([(31 : Int), (28 : Int), (31 : Int), (30 : Int), (31 : Int), (30 : Int), (31 : Int), (31 : Int), (30 : Int), (31 : Int), (30 : Int), (31 : Int)]) (IntKind.wrap .i64 (x1 - (1 : Int)))).bind fun g0 => some (g0)))
        ((getI ([(31 : Int), (28 : Int), (31 : Int), (30 : Int), (31 : Int), (30 : Int), (31 : Int), (31 : Int), (30 : Int), (31 : Int), (30 : Int), (31 : Int)]) (IntKind.wrap .i64 (x1 - (1 : Int)))).bind fun g0 => some (g0)))
      (some ((0 : Int)))
theorem s_DaysIn_D (x0 : Int) (x1 : Int) : Ans (s_DaysIn_F x0 x1) (fun r => Does E 51 [.one (tI x0), .one (tI x1)] [(false, [tI r])]) := by
  unfold s_DaysIn_F
  refine Ans.ite (fun h0 => ?_) (fun h0 => ?_)
  · refine Ans.ite (fun h1 => ?_) (fun h1 => ?_)
    · refine Ans.ite (fun h2 => ?_) (fun h2 => ?_)
      · exact Ans.some (s_DaysIn_P0 x0 x1 h0 h1 h2)
      · refine Ans.bind (fun g0 h3 => ?_)
        exact Ans.some (s_DaysIn_P1 x0 x1 g0 h0 h1 h2 h3)
    · refine Ans.bind (fun g0 h2 => ?_)
      exact Ans.some (s_DaysIn_P2 x0 x1 g0 h0 h1 h2)
  · exact Ans.some (s_DaysIn_P3 x0 x1 h0)
theorem daysIn_at (y : Int) (k : Nat) (h : k < 12) : daysIn y ((k : Int) + 1) = ([31, cond (leapYear y) 29 28, 31, 30, 31, 30, 31, 31, 30, 31, 30, 31] : List Int).getD k 0 := by
  unfold daysIn i_DaysIn_F
  match k, h with
  | 0, _ => rfl
  | 1, _ => show (cond (leapYear y) (some 29) (some 28) : Option Int).getD 0 = cond (leapYear y) 29 28; cases leapYear y <;> rfl
  | 2, _ => rfl
  | 3, _ => rfl
  | 4, _ => rfl
  | 5, _ => rfl
  | 6, _ => rfl
  | 7, _ => rfl
  | 8, _ => rfl
  | 9, _ => rfl
  | 10, _ => rfl
  | 11, _ => rfl
  | k + 12, h => omega
theorem daysIn_no (y m : Int) (h : ¬ (1 ≤ m ∧ m ≤ 12)) : daysIn y m = 0 := by
  unfold daysIn i_DaysIn_F
  have e : ∀ j : Int, 1 ≤ j → j ≤ 12 → (m == j) = false := fun j h1 h2 => beq_eq_false_iff_ne.2 fun e => h (by omega)
  simp [e]
theorem s_DaysIn_tot (y m : Int) : s_DaysIn_F y m = some (daysIn y m) := by
  unfold s_DaysIn_F
  by_cases q : 1 ≤ m ∧ m ≤ 12
  · obtain ⟨k, rfl⟩ : ∃ k : Nat, m = (k : Int) + 1 := ⟨(m - 1).toNat, by omega⟩
    have hk : k < 12 := by omega
    rw [daysIn_at y k hk]
    match k, hk with
    | 0, _ => rfl
    | 1, _ => show (cond (leapYear y) (some 29) (some 28) : Option Int) = some (cond (leapYear y) 29 28); cases leapYear y <;> rfl
    | 2, _ => rfl
    | 3, _ => rfl
    | 4, _ => rfl
    | 5, _ => rfl
    | 6, _ => rfl
    | 7, _ => rfl
    | 8, _ => rfl
    | 9, _ => rfl
    | 10, _ => rfl
    | 11, _ => rfl
    | k + 12, h => omega
  · rw [daysIn_no y m q]
    have : inRange m 1 12 = false := by
      unfold inRange
      by_cases a : m ≥ 1
      · have : ¬ m ≤ 12 := fun b => q ⟨a, b⟩
        simp [a, this]
      · simp [a]
    rw [this]
    rfl
theorem T_s_DaysIn (x0 : Int) (x1 : Int) : Does E 51 [.one (tI x0), .one (tI x1)] [(false, [tI (daysIn x0 x1)])] := by
  exact s_DaysIn_D x0 x1 _ (s_DaysIn_tot x0 x1)
theorem i_daysOf_P0 (x0 : Int) (h0 : (leapYear x0) = true) : Does E 52 [.one (tI x0)] [(false, [tI (366 : Int)])] :=
  Does.path (fn := Try.f52) [rT] _ rfl (fun _ => rfl) (fun k => by kernel_rfl) (AD (Does.tB (T_i_LeapYear x0) h0) <| AN)
theorem i_daysOf_P1 (x0 : Int) (h0 : (leapYear x0) = false) : Does E 52 [.one (tI x0)] [(false, [tI (365 : Int)])] :=
  Does.path (fn := Try.f52) [rF] _ rfl (fun _ => rfl) (fun k => by kernel_rfl) (AD (Does.tB (T_i_LeapYear x0) h0) <| AN)
noncomputable def i_daysOf_F (x0 : Int) : Option (Int) :=
    cond (leapYear x0)
      (some ((366 : Int)))
      (some ((365 : Int)))
theorem i_daysOf_D (x0 : Int) : Ans (i_daysOf_F x0) (fun r => Does E 52 [.one (tI x0)] [(false, [tI r])]) := by
  unfold i_daysOf_F
  refine Ans.ite (fun h0 => ?_) (fun h0 => ?_)
  · exact Ans.some (i_daysOf_P0 x0 h0)
  · exact Ans.some (i_daysOf_P1 x0 h0)
def daysOf (y : Int) : Int := cond (leapYear y) 366 365
theorem T_i_daysOf (x0 : Int) : Does E 52 [.one (tI x0)] [(false, [tI (daysOf x0)])] := by
  exact i_daysOf_D x0 _ (by unfold i_daysOf_F daysOf; cases leapYear x0 <;> rfl)
theorem s_l09Year_P0 (x0 : Int)  : Does E 50 [.one (tI x0)] [(false, [tI (IntKind.wrap .i64 ((IntKind.wrap .i64 ((365 : Int) * (IntKind.wrap .i64 (x0 - (1970 : Int))))) + (IntKind.wrap .i64 (Int.tdiv (inc (IntKind.wrap .i64 (x0 - (1970 : Int)))) (4 : Int)))))])] :=
  Does.path (fn := Try.f50) [] _ rfl (fun _ => rfl) (fun k => by kernel_rfl) AN
noncomputable def s_l09Year_F (x0 : Int) : Option (Int) :=
    some (IntKind.wrap .i64 ((IntKind.wrap .i64 ((365 : Int) * (IntKind.wrap .i64 (x0 - (1970 : Int))))) + (IntKind.wrap .i64 (Int.tdiv (inc (IntKind.wrap .i64 (x0 - (1970 : Int)))) (4 : Int)))))
theorem s_l09Year_D (x0 : Int) : Ans (s_l09Year_F x0) (fun r => Does E 50 [.one (tI x0)] [(false, [tI r])]) := by
  unfold s_l09Year_F
  exact Ans.some (s_l09Year_P0 x0)
noncomputable def l09Year (y : Int) : Int := (s_l09Year_F y).getD 0
theorem l09_at (k : Nat) (h : k ≤ 200) : l09Year (1970 + (k : Int)) = 365 * (k : Int) + ((k : Int) + 1) / 4 := by
  unfold l09Year s_l09Year_F
  simp only [Option.getD_some]
  have e1 : IntKind.wrap .i64 (1970 + (k : Int) - 1970) = (k : Int) := by rw [wrap_id _ (by omega) (by omega)]; omega
  have e2 : IntKind.wrap .i64 (365 * (k : Int)) = 365 * (k : Int) := wrap_id _ (by omega) (by omega)
  have e3 : inc (k : Int) = (k : Int) + 1 := inc_id _ (by omega) (by omega)
  have e4 : IntKind.wrap .i64 (((k : Int) + 1).tdiv 4) = ((k : Int) + 1) / 4 := by rw [Int.tdiv_eq_ediv_of_nonneg (by omega)]; exact wrap_id _ (by omega) (by omega)
  rw [e1, e2, e3, e4]
  exact wrap_id _ (by omega) (by omega)
theorem daysOf_tab : (List.range 130).all (fun k => decide (daysOf (1970 + (k : Int)) = 365 + (((k : Int) + 2) / 4 - ((k : Int) + 1) / 4))) = true := by decide +kernel
theorem daysOf_at (k : Nat) (h : k < 130) : daysOf (1970 + (k : Int)) = 365 + (((k : Int) + 2) / 4 - ((k : Int) + 1) / 4) :=
  of_decide_eq_true (List.all_eq_true.1 daysOf_tab k (List.mem_range.2 h))
theorem T_s_l09Year (x0 : Int) : Does E 50 [.one (tI x0)] [(false, [tI (l09Year x0)])] := by
  exact s_l09Year_D x0 _ rfl
theorem i_isMinute_P0 (x0 : Int)  : Does E 46 [.one (tI x0)] [(false, [tB (inRange x0 (0 : Int) (68374079 : Int))])] :=
  Does.path (fn := Try.f46) [.ret [(false, [tB (inRange x0 (0 : Int) (68374079 : Int))])]] _ rfl (fun _ => rfl) (fun k => by kernel_rfl) (AD (T_i_inRange x0 (0 : Int) (68374079 : Int)) <| AN)
noncomputable def i_isMinute_F (x0 : Int) : Option (Bool) :=
    some (inRange x0 (0 : Int) (68374079 : Int))
theorem i_isMinute_D (x0 : Int) : Ans (i_isMinute_F x0) (fun r => Does E 46 [.one (tI x0)] [(false, [tB r])]) := by
  unfold i_isMinute_F
  exact Ans.some (i_isMinute_P0 x0)
def isMinute (x : Int) : Bool := inRange x 0 68374079
theorem T_i_isMinute (x0 : Int) : Does E 46 [.one (tI x0)] [(false, [tB (isMinute x0)])] := by
  exact i_isMinute_D x0 _ rfl
inductive s_CivilOf_X1 where
  | x2 (v4 : Int) (v6 : Int)
def s_CivilOf_Q1 (v0 : Int) (v2_0 : Int) (v2_1 : Int) (v2_2 : Int) (v2_3 : Int) (v2_4 : Int) (v4 : Int) (v5 : Int) (v6 : Int) : s_CivilOf_X1 → Prop
  | .x2 zv4 zv6 => Loops E 42 (lpAt Try.f42 1) (stL 49 [(0, .one (tI v0)), (2, .box () [tI v2_0, tI v2_1, tI v2_2, tI v2_3, tI v2_4]), (4, .one (tI v4)), (5, .one (tI v5)), (6, .one (tI v6))]) (.exit 2) (stL 49 [(0, .one (tI v0)), (2, .box () [tI v2_0, tI v2_1, tI v2_2, tI v2_3, tI v2_4]), (4, .one (tI zv4)), (5, .one (tI v5)), (6, .one (tI zv6))])
theorem s_CivilOf_R1_0 (v0 : Int) (v2_0 : Int) (v2_1 : Int) (v2_2 : Int) (v2_3 : Int) (v2_4 : Int) (v4 : Int) (v5 : Int) (v6 : Int) (h0 : (decide (v4 ≥ (daysIn v5 v6))) = true) : Round E 42 (lpAt Try.f42 1) (stL 49 [(0, .one (tI v0)), (2, .box () [tI v2_0, tI v2_1, tI v2_2, tI v2_3, tI v2_4]), (4, .one (tI v4)), (5, .one (tI v5)), (6, .one (tI v6))]) .normal (stL 49 [(0, .one (tI v0)), (2, .box () [tI v2_0, tI v2_1, tI v2_2, tI v2_3, tI v2_4]), (4, .one (tI (IntKind.wrap .i64 (v4 - (daysIn v5 v6))))), (5, .one (tI v5)), (6, .one (tI (inc v6)))]) :=
  Round.path [.ret [(false, [tI (daysIn v5 v6)])], .b true, .ret [(false, [tI (daysIn v5 v6)])]] _ (fun k => by kernel_rfl) (AD (T_s_DaysIn v5 v6) <| AC h0 <| AD (T_s_DaysIn v5 v6) <| AN)
theorem s_CivilOf_R1_1 (v0 : Int) (v2_0 : Int) (v2_1 : Int) (v2_2 : Int) (v2_3 : Int) (v2_4 : Int) (v4 : Int) (v5 : Int) (v6 : Int) (h0 : (decide (v4 ≥ (daysIn v5 v6))) = false) : Round E 42 (lpAt Try.f42 1) (stL 49 [(0, .one (tI v0)), (2, .box () [tI v2_0, tI v2_1, tI v2_2, tI v2_3, tI v2_4]), (4, .one (tI v4)), (5, .one (tI v5)), (6, .one (tI v6))]) (.exit 2) (stL 49 [(0, .one (tI v0)), (2, .box () [tI v2_0, tI v2_1, tI v2_2, tI v2_3, tI v2_4]), (4, .one (tI v4)), (5, .one (tI v5)), (6, .one (tI v6))]) :=
  Round.path [.ret [(false, [tI (daysIn v5 v6)])], .b false] _ (fun k => by kernel_rfl) (AD (T_s_DaysIn v5 v6) <| AC h0 <| AN)
noncomputable def s_CivilOf_l1 (v5 : Int) : Nat → Int → Int → Option s_CivilOf_X1
  | 0, _, _ => none
  | n + 1, v4, v6 => cond (decide (v4 ≥ (daysIn v5 v6)))
    (s_CivilOf_l1 v5 n (IntKind.wrap .i64 (v4 - (daysIn v5 v6))) (inc v6))
    (some (.x2 v4 v6))
theorem s_CivilOf_L1 (v0 : Int) (v2_0 : Int) (v2_1 : Int) (v2_2 : Int) (v2_3 : Int) (v2_4 : Int) (v5 : Int) (n : Nat) : ∀ (v4 : Int) (v6 : Int), Ans (s_CivilOf_l1 v5 n v4 v6) (s_CivilOf_Q1 v0 v2_0 v2_1 v2_2 v2_3 v2_4 v4 v5 v6) := by
  induction n with
  | zero => intros; exact Ans.none
  | succ n ih =>
    intro v4 v6
    unfold s_CivilOf_l1
    refine Ans.ite (fun h0 => ?_) (fun h0 => ?_)
    · exact (ih (IntKind.wrap .i64 (v4 - (daysIn v5 v6))) (inc v6)).mono fun y hy => by cases y <;> exact Loops.next (s_CivilOf_R1_0 v0 v2_0 v2_1 v2_2 v2_3 v2_4 v4 v5 v6 h0) hy
    · exact Ans.some (Loops.stop (s_CivilOf_R1_1 v0 v2_0 v2_1 v2_2 v2_3 v2_4 v4 v5 v6 h0) (by intro h; cases h))
inductive s_CivilOf_X0 where
  | x0 (v5 : Int)
def s_CivilOf_Q0 (v0 : Int) (v2_0 : Int) (v2_1 : Int) (v2_2 : Int) (v2_3 : Int) (v2_4 : Int) (v4 : Int) (v5 : Int) : s_CivilOf_X0 → Prop
  | .x0 zv5 => Loops E 42 (lpAt Try.f42 0) (stL 49 [(0, .one (tI v0)), (2, .box () [tI v2_0, tI v2_1, tI v2_2, tI v2_3, tI v2_4]), (4, .one (tI v4)), (5, .one (tI v5))]) (.exit 0) (stL 49 [(0, .one (tI v0)), (2, .box () [tI v2_0, tI v2_1, tI v2_2, tI v2_3, tI v2_4]), (4, .one (tI v4)), (5, .one (tI zv5))])
theorem s_CivilOf_R0_0 (v0 : Int) (v2_0 : Int) (v2_1 : Int) (v2_2 : Int) (v2_3 : Int) (v2_4 : Int) (v4 : Int) (v5 : Int) (h0 : (decide ((l09Year (inc v5)) ≤ v4)) = true) : Round E 42 (lpAt Try.f42 0) (stL 49 [(0, .one (tI v0)), (2, .box () [tI v2_0, tI v2_1, tI v2_2, tI v2_3, tI v2_4]), (4, .one (tI v4)), (5, .one (tI v5))]) .normal (stL 49 [(0, .one (tI v0)), (2, .box () [tI v2_0, tI v2_1, tI v2_2, tI v2_3, tI v2_4]), (4, .one (tI v4)), (5, .one (tI (inc v5)))]) :=
  Round.path [.ret [(false, [tI (l09Year (inc v5))])], .b true] _ (fun k => by kernel_rfl) (AD (T_s_l09Year (inc v5)) <| AC h0 <| AN)
theorem s_CivilOf_R0_1 (v0 : Int) (v2_0 : Int) (v2_1 : Int) (v2_2 : Int) (v2_3 : Int) (v2_4 : Int) (v4 : Int) (v5 : Int) (h0 : (decide ((l09Year (inc v5)) ≤ v4)) = false) : Round E 42 (lpAt Try.f42 0) (stL 49 [(0, .one (tI v0)), (2, .box () [tI v2_0, tI v2_1, tI v2_2, tI v2_3, tI v2_4]), (4, .one (tI v4)), (5, .one (tI v5))]) (.exit 0) (stL 49 [(0, .one (tI v0)), (2, .box () [tI v2_0, tI v2_1, tI v2_2, tI v2_3, tI v2_4]), (4, .one (tI v4)), (5, .one (tI v5))]) :=
  Round.path [.ret [(false, [tI (l09Year (inc v5))])], .b false] _ (fun k => by kernel_rfl) (AD (T_s_l09Year (inc v5)) <| AC h0 <| AN)
noncomputable def s_CivilOf_l0 (v4 : Int) : Nat → Int → Option s_CivilOf_X0
  | 0, _ => none
  | n + 1, v5 => cond (decide ((l09Year (inc v5)) ≤ v4))
    (s_CivilOf_l0 v4 n (inc v5))
    (some (.x0 v5))
theorem s_CivilOf_L0 (v0 : Int) (v2_0 : Int) (v2_1 : Int) (v2_2 : Int) (v2_3 : Int) (v2_4 : Int) (v4 : Int) (n : Nat) : ∀ (v5 : Int), Ans (s_CivilOf_l0 v4 n v5) (s_CivilOf_Q0 v0 v2_0 v2_1 v2_2 v2_3 v2_4 v4 v5) := by
  induction n with
  | zero => intros; exact Ans.none
  | succ n ih =>
    intro v5
    unfold s_CivilOf_l0
    refine Ans.ite (fun h0 => ?_) (fun h0 => ?_)
    · exact (ih (inc v5)).mono fun y hy => by cases y <;> exact Loops.next (s_CivilOf_R0_0 v0 v2_0 v2_1 v2_2 v2_3 v2_4 v4 v5 h0) hy
    · exact Ans.some (Loops.stop (s_CivilOf_R0_1 v0 v2_0 v2_1 v2_2 v2_3 v2_4 v4 v5 h0) (by intro h; cases h))
theorem s_CivilOf_P0 (x0 : Int) (w0_5 : Int) (w1_4 : Int) (w1_6 : Int) (h0 : (inRange x0 (0 : Int) (68374079 : Int)) = true) (h1 : Loops E 42 (lpAt Try.f42 0) (stL 49 [(0, .one (tI x0)), (2, .box () [tI (0 : Int), tI (0 : Int), tI (0 : Int), tI (0 : Int), tI (0 : Int)]), (4, .one (tI (IntKind.wrap .i64 (Int.tdiv x0 (1440 : Int))))), (5, .one (tI (IntKind.wrap .i64 ((1970 : Int) + (IntKind.wrap .i64 (Int.tdiv (IntKind.wrap .i64 (Int.tdiv x0 (1440 : Int))) (366 : Int)))))))]) (.exit 0) (stL 49 [(0, .one (tI x0)), (2, .box () [tI (0 : Int), tI (0 : Int), tI (0 : Int), tI (0 : Int), tI (0 : Int)]), (4, .one (tI (IntKind.wrap .i64 (Int.tdiv x0 (1440 : Int))))), (5, .one (tI w0_5))])) (h2 : Loops E 42 (lpAt Try.f42 1) (stL 49 [(0, .one (tI x0)), (2, .box () [tI (0 : Int), tI (0 : Int), tI (0 : Int), tI (0 : Int), tI (0 : Int)]), (4, .one (tI (IntKind.wrap .i64 ((IntKind.wrap .i64 (Int.tdiv x0 (1440 : Int))) - (l09Year w0_5))))), (5, .one (tI w0_5)), (6, .one (tI (1 : Int)))]) (.exit 2) (stL 49 [(0, .one (tI x0)), (2, .box () [tI (0 : Int), tI (0 : Int), tI (0 : Int), tI (0 : Int), tI (0 : Int)]), (4, .one (tI w1_4)), (5, .one (tI w0_5)), (6, .one (tI w1_6))])) : Does E 42 [.one (tI x0)] [(true, GCivil.t (GCivil.mk w0_5 w1_6 (inc w1_4) (IntKind.wrap .i64 (Int.tdiv (Int.tmod x0 (1440 : Int)) (60 : Int))) (Int.tmod x0 (60 : Int)))), (false, [tB true])] :=
  Does.path (fn := Try.f42) [rT, .lp (.exit 0) (stL 49 [(0, .one (tI x0)), (2, .box () [tI (0 : Int), tI (0 : Int), tI (0 : Int), tI (0 : Int), tI (0 : Int)]), (4, .one (tI (IntKind.wrap .i64 (Int.tdiv x0 (1440 : Int))))), (5, .one (tI w0_5))]), .ret [(false, [tI (l09Year w0_5)])], .lp (.exit 2) (stL 49 [(0, .one (tI x0)), (2, .box () [tI (0 : Int), tI (0 : Int), tI (0 : Int), tI (0 : Int), tI (0 : Int)]), (4, .one (tI w1_4)), (5, .one (tI w0_5)), (6, .one (tI w1_6))])] _ rfl (fun _ => rfl) (fun k => by kernel_rfl) (AD (Does.tB (T_s_l01In x0 (0 : Int) (68374079 : Int)) h0) <| AV (ψ := fun k => LoopK E 42 (lpAt Try.f42 0) (stL 49 [(0, .one (tI x0)), (2, .box () [tI (0 : Int), tI (0 : Int), tI (0 : Int), tI (0 : Int), tI (0 : Int)]), (4, .one (tI (IntKind.wrap .i64 (Int.tdiv x0 (1440 : Int))))), (5, .one (tI (IntKind.wrap .i64 ((1970 : Int) + (IntKind.wrap .i64 (Int.tdiv (IntKind.wrap .i64 (Int.tdiv x0 (1440 : Int))) (366 : Int)))))))]) (.exit 0) (stL 49 [(0, .one (tI x0)), (2, .box () [tI (0 : Int), tI (0 : Int), tI (0 : Int), tI (0 : Int), tI (0 : Int)]), (4, .one (tI (IntKind.wrap .i64 (Int.tdiv x0 (1440 : Int))))), (5, .one (tI w0_5))]) k k) (Loops.ev h1) <| AD (T_s_l09Year w0_5) <| AV (ψ := fun k => LoopK E 42 (lpAt Try.f42 1) (stL 49 [(0, .one (tI x0)), (2, .box () [tI (0 : Int), tI (0 : Int), tI (0 : Int), tI (0 : Int), tI (0 : Int)]), (4, .one (tI (IntKind.wrap .i64 ((IntKind.wrap .i64 (Int.tdiv x0 (1440 : Int))) - (l09Year w0_5))))), (5, .one (tI w0_5)), (6, .one (tI (1 : Int)))]) (.exit 2) (stL 49 [(0, .one (tI x0)), (2, .box () [tI (0 : Int), tI (0 : Int), tI (0 : Int), tI (0 : Int), tI (0 : Int)]), (4, .one (tI w1_4)), (5, .one (tI w0_5)), (6, .one (tI w1_6))]) k k) (Loops.ev h2) <| AN)
theorem s_CivilOf_P1 (x0 : Int) (h0 : (inRange x0 (0 : Int) (68374079 : Int)) = false) : Does E 42 [.one (tI x0)] [(true, GCivil.t (GCivil.mk (0 : Int) (0 : Int) (0 : Int) (0 : Int) (0 : Int))), (false, [tB false])] :=
  Does.path (fn := Try.f42) [rF] _ rfl (fun _ => rfl) (fun k => by kernel_rfl) (AD (Does.tB (T_s_l01In x0 (0 : Int) (68374079 : Int)) h0) <| AN)
noncomputable def s_CivilOf_F (x0 : Int) : Option (GCivil × Bool) :=
    cond (inRange x0 (0 : Int) (68374079 : Int))
      ((s_CivilOf_l0 (IntKind.wrap .i64 (Int.tdiv x0 (1440 : Int))) 9223372036854775808 (IntKind.wrap .i64 ((1970 : Int) + (IntKind.wrap .i64 (Int.tdiv (IntKind.wrap .i64 (Int.tdiv x0 (1440 : Int))) (366 : Int)))))).bind fun y => match y with
        | .x0 w0_5 => ((s_CivilOf_l1 w0_5 9223372036854775808 (IntKind.wrap .i64 ((IntKind.wrap .i64 (Int.tdiv x0 (1440 : Int))) - (l09Year w0_5))) (1 : Int)).bind fun y => match y with
          | .x2 w1_4 w1_6 => (some ((GCivil.mk w0_5 w1_6 (inc w1_4) (IntKind.wrap .i64 (Int.tdiv (Int.tmod x0 (1440 : Int)) (60 : Int))) (Int.tmod x0 (60 : Int))), true))))
      (some ((GCivil.mk (0 : Int) (0 : Int) (0 : Int) (0 : Int) (0 : Int)), false))
theorem s_CivilOf_D (x0 : Int) : Ans (s_CivilOf_F x0) (fun r => Does E 42 [.one (tI x0)] [(true, GCivil.t r.1), (false, [tB r.2])]) := by
  unfold s_CivilOf_F
  refine Ans.ite (fun h0 => ?_) (fun h0 => ?_)
  · refine Ans.bind (fun y hy => ?_)
    replace hy := s_CivilOf_L0 x0 (0 : Int) (0 : Int) (0 : Int) (0 : Int) (0 : Int) (IntKind.wrap .i64 (Int.tdiv x0 (1440 : Int))) 9223372036854775808 (IntKind.wrap .i64 ((1970 : Int) + (IntKind.wrap .i64 (Int.tdiv (IntKind.wrap .i64 (Int.tdiv x0 (1440 : Int))) (366 : Int))))) y hy
    cases y with
    | x0 w0_5 =>
      have h1 := hy
      refine Ans.bind (fun y hy => ?_)
      replace hy := s_CivilOf_L1 x0 (0 : Int) (0 : Int) (0 : Int) (0 : Int) (0 : Int) w0_5 9223372036854775808 (IntKind.wrap .i64 ((IntKind.wrap .i64 (Int.tdiv x0 (1440 : Int))) - (l09Year w0_5))) (1 : Int) y hy
      cases y with
      | x2 w1_4 w1_6 =>
        have h2 := hy
        exact Ans.some (s_CivilOf_P0 x0 w0_5 w1_4 w1_6 h0 h1 h2)
  · exact Ans.some (s_CivilOf_P1 x0 h0)
inductive i_CivilOf_X1 where
  | x2 (v4 : Int) (v6_1 : Int)
def i_CivilOf_Q1 (v2_0 : Int) (v2_1 : Int) (v2_2 : Int) (v2_3 : Int) (v2_4 : Int) (v4 : Int) (v6_0 : Int) (v6_1 : Int) (v6_2 : Int) (v6_3 : Int) (v6_4 : Int) : i_CivilOf_X1 → Prop
  | .x2 zv4 zv6_1 => Loops E 47 (lpAt Try.f47 1) (stL 56 [(2, .box () [tI v2_0, tI v2_1, tI v2_2, tI v2_3, tI v2_4]), (4, .one (tI v4)), (6, .box () [tI v6_0, tI v6_1, tI v6_2, tI v6_3, tI v6_4])]) (.exit 2) (stL 56 [(2, .box () [tI v2_0, tI v2_1, tI v2_2, tI v2_3, tI v2_4]), (4, .one (tI zv4)), (6, .box () [tI v6_0, tI zv6_1, tI v6_2, tI v6_3, tI v6_4])])
theorem i_CivilOf_R1_0 (v2_0 : Int) (v2_1 : Int) (v2_2 : Int) (v2_3 : Int) (v2_4 : Int) (v4 : Int) (v6_0 : Int) (v6_1 : Int) (v6_2 : Int) (v6_3 : Int) (v6_4 : Int) (h0 : (decide (v4 ≥ (daysIn v6_0 v6_1))) = true) : Round E 47 (lpAt Try.f47 1) (stL 56 [(2, .box () [tI v2_0, tI v2_1, tI v2_2, tI v2_3, tI v2_4]), (4, .one (tI v4)), (6, .box () [tI v6_0, tI v6_1, tI v6_2, tI v6_3, tI v6_4])]) .normal (stL 56 [(2, .box () [tI v2_0, tI v2_1, tI v2_2, tI v2_3, tI v2_4]), (4, .one (tI (IntKind.wrap .i64 (v4 - (daysIn v6_0 v6_1))))), (6, .box () [tI v6_0, tI (inc v6_1), tI v6_2, tI v6_3, tI v6_4])]) :=
  Round.path [.ret [(false, [tI (daysIn v6_0 v6_1)])], .b true, .ret [(false, [tI (daysIn v6_0 v6_1)])]] _ (fun k => by kernel_rfl) (AD (T_i_DaysIn v6_0 v6_1) <| AC h0 <| AD (T_i_DaysIn v6_0 v6_1) <| AN)
theorem i_CivilOf_R1_1 (v2_0 : Int) (v2_1 : Int) (v2_2 : Int) (v2_3 : Int) (v2_4 : Int) (v4 : Int) (v6_0 : Int) (v6_1 : Int) (v6_2 : Int) (v6_3 : Int) (v6_4 : Int) (h0 : (decide (v4 ≥ (daysIn v6_0 v6_1))) = false) : Round E 47 (lpAt Try.f47 1) (stL 56 [(2, .box () [tI v2_0, tI v2_1, tI v2_2, tI v2_3, tI v2_4]), (4, .one (tI v4)), (6, .box () [tI v6_0, tI v6_1, tI v6_2, tI v6_3, tI v6_4])]) (.exit 2) (stL 56 [(2, .box () [tI v2_0, tI v2_1, tI v2_2, tI v2_3, tI v2_4]), (4, .one (tI v4)), (6, .box () [tI v6_0, tI v6_1, tI v6_2, tI v6_3, tI v6_4])]) :=
  Round.path [.ret [(false, [tI (daysIn v6_0 v6_1)])], .b false] _ (fun k => by kernel_rfl) (AD (T_i_DaysIn v6_0 v6_1) <| AC h0 <| AN)
noncomputable def i_CivilOf_l1 (v6_0 : Int) : Nat → Int → Int → Option i_CivilOf_X1
  | 0, _, _ => none
  | n + 1, v4, v6_1 => cond (decide (v4 ≥ (daysIn v6_0 v6_1)))
    (i_CivilOf_l1 v6_0 n (IntKind.wrap .i64 (v4 - (daysIn v6_0 v6_1))) (inc v6_1))
    (some (.x2 v4 v6_1))
theorem i_CivilOf_L1 (v2_0 : Int) (v2_1 : Int) (v2_2 : Int) (v2_3 : Int) (v2_4 : Int) (v6_0 : Int) (v6_2 : Int) (v6_3 : Int) (v6_4 : Int) (n : Nat) : ∀ (v4 : Int) (v6_1 : Int), Ans (i_CivilOf_l1 v6_0 n v4 v6_1) (i_CivilOf_Q1 v2_0 v2_1 v2_2 v2_3 v2_4 v4 v6_0 v6_1 v6_2 v6_3 v6_4) := by
  induction n with
  | zero => intros; exact Ans.none
  | succ n ih =>
    intro v4 v6_1
    unfold i_CivilOf_l1
    refine Ans.ite (fun h0 => ?_) (fun h0 => ?_)
    · exact (ih (IntKind.wrap .i64 (v4 - (daysIn v6_0 v6_1))) (inc v6_1)).mono fun y hy => by cases y <;> exact Loops.next (i_CivilOf_R1_0 v2_0 v2_1 v2_2 v2_3 v2_4 v4 v6_0 v6_1 v6_2 v6_3 v6_4 h0) hy
    · exact Ans.some (Loops.stop (i_CivilOf_R1_1 v2_0 v2_1 v2_2 v2_3 v2_4 v4 v6_0 v6_1 v6_2 v6_3 v6_4 h0) (by intro h; cases h))
inductive i_CivilOf_X0 where
  | x0 (v4 : Int) (v6_0 : Int)
def i_CivilOf_Q0 (v2_0 : Int) (v2_1 : Int) (v2_2 : Int) (v2_3 : Int) (v2_4 : Int) (v4 : Int) (v6_0 : Int) (v6_1 : Int) (v6_2 : Int) (v6_3 : Int) (v6_4 : Int) : i_CivilOf_X0 → Prop
  | .x0 zv4 zv6_0 => Loops E 47 (lpAt Try.f47 0) (stL 56 [(2, .box () [tI v2_0, tI v2_1, tI v2_2, tI v2_3, tI v2_4]), (4, .one (tI v4)), (6, .box () [tI v6_0, tI v6_1, tI v6_2, tI v6_3, tI v6_4])]) (.exit 0) (stL 56 [(2, .box () [tI v2_0, tI v2_1, tI v2_2, tI v2_3, tI v2_4]), (4, .one (tI zv4)), (6, .box () [tI zv6_0, tI v6_1, tI v6_2, tI v6_3, tI v6_4])])
theorem i_CivilOf_R0_0 (v2_0 : Int) (v2_1 : Int) (v2_2 : Int) (v2_3 : Int) (v2_4 : Int) (v4 : Int) (v6_0 : Int) (v6_1 : Int) (v6_2 : Int) (v6_3 : Int) (v6_4 : Int) (h0 : (decide (v4 ≥ (daysOf v6_0))) = true) : Round E 47 (lpAt Try.f47 0) (stL 56 [(2, .box () [tI v2_0, tI v2_1, tI v2_2, tI v2_3, tI v2_4]), (4, .one (tI v4)), (6, .box () [tI v6_0, tI v6_1, tI v6_2, tI v6_3, tI v6_4])]) .normal (stL 56 [(2, .box () [tI v2_0, tI v2_1, tI v2_2, tI v2_3, tI v2_4]), (4, .one (tI (IntKind.wrap .i64 (v4 - (daysOf v6_0))))), (6, .box () [tI (inc v6_0), tI v6_1, tI v6_2, tI v6_3, tI v6_4])]) :=
  Round.path [.ret [(false, [tI (daysOf v6_0)])], .b true, .ret [(false, [tI (daysOf v6_0)])]] _ (fun k => by kernel_rfl) (AD (T_i_daysOf v6_0) <| AC h0 <| AD (T_i_daysOf v6_0) <| AN)
theorem i_CivilOf_R0_1 (v2_0 : Int) (v2_1 : Int) (v2_2 : Int) (v2_3 : Int) (v2_4 : Int) (v4 : Int) (v6_0 : Int) (v6_1 : Int) (v6_2 : Int) (v6_3 : Int) (v6_4 : Int) (h0 : (decide (v4 ≥ (daysOf v6_0))) = false) : Round E 47 (lpAt Try.f47 0) (stL 56 [(2, .box () [tI v2_0, tI v2_1, tI v2_2, tI v2_3, tI v2_4]), (4, .one (tI v4)), (6, .box () [tI v6_0, tI v6_1, tI v6_2, tI v6_3, tI v6_4])]) (.exit 0) (stL 56 [(2, .box () [tI v2_0, tI v2_1, tI v2_2, tI v2_3, tI v2_4]), (4, .one (tI v4)), (6, .box () [tI v6_0, tI v6_1, tI v6_2, tI v6_3, tI v6_4])]) :=
  Round.path [.ret [(false, [tI (daysOf v6_0)])], .b false] _ (fun k => by kernel_rfl) (AD (T_i_daysOf v6_0) <| AC h0 <| AN)
noncomputable def i_CivilOf_l0  : Nat → Int → Int → Option i_CivilOf_X0
  | 0, _, _ => none
  | n + 1, v4, v6_0 => cond (decide (v4 ≥ (daysOf v6_0)))
    (i_CivilOf_l0 n (IntKind.wrap .i64 (v4 - (daysOf v6_0))) (inc v6_0))
    (some (.x0 v4 v6_0))
theorem i_CivilOf_L0 (v2_0 : Int) (v2_1 : Int) (v2_2 : Int) (v2_3 : Int) (v2_4 : Int) (v6_1 : Int) (v6_2 : Int) (v6_3 : Int) (v6_4 : Int) (n : Nat) : ∀ (v4 : Int) (v6_0 : Int), Ans (i_CivilOf_l0 n v4 v6_0) (i_CivilOf_Q0 v2_0 v2_1 v2_2 v2_3 v2_4 v4 v6_0 v6_1 v6_2 v6_3 v6_4) := by
  induction n with
  | zero => intros; exact Ans.none
  | succ n ih =>
    intro v4 v6_0
    unfold i_CivilOf_l0
    refine Ans.ite (fun h0 => ?_) (fun h0 => ?_)
    · exact (ih (IntKind.wrap .i64 (v4 - (daysOf v6_0))) (inc v6_0)).mono fun y hy => by cases y <;> exact Loops.next (i_CivilOf_R0_0 v2_0 v2_1 v2_2 v2_3 v2_4 v4 v6_0 v6_1 v6_2 v6_3 v6_4 h0) hy
    · exact Ans.some (Loops.stop (i_CivilOf_R0_1 v2_0 v2_1 v2_2 v2_3 v2_4 v4 v6_0 v6_1 v6_2 v6_3 v6_4 h0) (by intro h; cases h))
theorem i_CivilOf_P0 (x0 : Int) (w0_4 : Int) (w0_6_0 : Int) (w1_4 : Int) (w1_6_1 : Int) (h0 : (isMinute x0) = true) (h1 : Loops E 47 (lpAt Try.f47 0) (stL 56 [(2, .box () [tI (0 : Int), tI (0 : Int), tI (0 : Int), tI (0 : Int), tI (0 : Int)]), (4, .one (tI (IntKind.wrap .i64 (Int.tdiv x0 (1440 : Int))))), (6, .box () [tI (1970 : Int), tI (1 : Int), tI (0 : Int), tI (IntKind.wrap .i64 (Int.tdiv (Int.tmod x0 (1440 : Int)) (60 : Int))), tI (Int.tmod (Int.tmod x0 (1440 : Int)) (60 : Int))])]) (.exit 0) (stL 56 [(2, .box () [tI (0 : Int), tI (0 : Int), tI (0 : Int), tI (0 : Int), tI (0 : Int)]), (4, .one (tI w0_4)), (6, .box () [tI w0_6_0, tI (1 : Int), tI (0 : Int), tI (IntKind.wrap .i64 (Int.tdiv (Int.tmod x0 (1440 : Int)) (60 : Int))), tI (Int.tmod (Int.tmod x0 (1440 : Int)) (60 : Int))])])) (h2 : Loops E 47 (lpAt Try.f47 1) (stL 56 [(2, .box () [tI (0 : Int), tI (0 : Int), tI (0 : Int), tI (0 : Int), tI (0 : Int)]), (4, .one (tI w0_4)), (6, .box () [tI w0_6_0, tI (1 : Int), tI (0 : Int), tI (IntKind.wrap .i64 (Int.tdiv (Int.tmod x0 (1440 : Int)) (60 : Int))), tI (Int.tmod (Int.tmod x0 (1440 : Int)) (60 : Int))])]) (.exit 2) (stL 56 [(2, .box () [tI (0 : Int), tI (0 : Int), tI (0 : Int), tI (0 : Int), tI (0 : Int)]), (4, .one (tI w1_4)), (6, .box () [tI w0_6_0, tI w1_6_1, tI (0 : Int), tI (IntKind.wrap .i64 (Int.tdiv (Int.tmod x0 (1440 : Int)) (60 : Int))), tI (Int.tmod (Int.tmod x0 (1440 : Int)) (60 : Int))])])) : Does E 47 [.one (tI x0)] [(true, GCivil.t (GCivil.mk w0_6_0 w1_6_1 (inc w1_4) (IntKind.wrap .i64 (Int.tdiv (Int.tmod x0 (1440 : Int)) (60 : Int))) (Int.tmod (Int.tmod x0 (1440 : Int)) (60 : Int)))), (false, [tB true])] :=
  Does.path (fn := Try.f47) [rT, .lp (.exit 0) (stL 56 [(2, .box () [tI (0 : Int), tI (0 : Int), tI (0 : Int), tI (0 : Int), tI (0 : Int)]), (4, .one (tI w0_4)), (6, .box () [tI w0_6_0, tI (1 : Int), tI (0 : Int), tI (IntKind.wrap .i64 (Int.tdiv (Int.tmod x0 (1440 : Int)) (60 : Int))), tI (Int.tmod (Int.tmod x0 (1440 : Int)) (60 : Int))])]), .lp (.exit 2) (stL 56 [(2, .box () [tI (0 : Int), tI (0 : Int), tI (0 : Int), tI (0 : Int), tI (0 : Int)]), (4, .one (tI w1_4)), (6, .box () [tI w0_6_0, tI w1_6_1, tI (0 : Int), tI (IntKind.wrap .i64 (Int.tdiv (Int.tmod x0 (1440 : Int)) (60 : Int))), tI (Int.tmod (Int.tmod x0 (1440 : Int)) (60 : Int))])])] _ rfl (fun _ => rfl) (fun k => by kernel_rfl) (AD (Does.tB (T_i_isMinute x0) h0) <| AV (ψ := fun k => LoopK E 47 (lpAt Try.f47 0) (stL 56 [(2, .box () [tI (0 : Int), tI (0 : Int), tI (0 : Int), tI (0 : Int), tI (0 : Int)]), (4, .one (tI (IntKind.wrap .i64 (Int.tdiv x0 (1440 : Int))))), (6, .box () [tI (1970 : Int), tI (1 : Int), tI (0 : Int), tI (IntKind.wrap .i64 (Int.tdiv (Int.tmod x0 (1440 : Int)) (60 : Int))), tI (Int.tmod (Int.tmod x0 (1440 : Int)) (60 : Int))])]) (.exit 0) (stL 56 [(2, .box () [tI (0 : Int), tI (0 : Int), tI (0 : Int), tI (0 : Int), tI (0 : Int)]), (4, .one (tI w0_4)), (6, .box () [tI w0_6_0, tI (1 : Int), tI (0 : Int), tI (IntKind.wrap .i64 (Int.tdiv (Int.tmod x0 (1440 : Int)) (60 : Int))), tI (Int.tmod (Int.tmod x0 (1440 : Int)) (60 : Int))])]) k k) (Loops.ev h1) <| AV (ψ := fun k => LoopK E 47 (lpAt Try.f47 1) (stL 56 [(2, .box () [tI (0 : Int), tI (0 : Int), tI (0 : Int), tI (0 : Int), tI (0 : Int)]), (4, .one (tI w0_4)), (6, .box () [tI w0_6_0, tI (1 : Int), tI (0 : Int), tI (IntKind.wrap .i64 (Int.tdiv (Int.tmod x0 (1440 : Int)) (60 : Int))), tI (Int.tmod (Int.tmod x0 (1440 : Int)) (60 : Int))])]) (.exit 2) (stL 56 [(2, .box () [tI (0 : Int), tI (0 : Int), tI (0 : Int), tI (0 : Int), tI (0 : Int)]), (4, .one (tI w1_4)), (6, .box () [tI w0_6_0, tI w1_6_1, tI (0 : Int), tI (IntKind.wrap .i64 (Int.tdiv (Int.tmod x0 (1440 : Int)) (60 : Int))), tI (Int.tmod (Int.tmod x0 (1440 : Int)) (60 : Int))])]) k k) (Loops.ev h2) <| AN)
theorem i_CivilOf_P1 (x0 : Int) (h0 : (isMinute x0) = false) : Does E 47 [.one (tI x0)] [(true, GCivil.t (GCivil.mk (0 : Int) (0 : Int) (0 : Int) (0 : Int) (0 : Int))), (false, [tB false])] :=
  Does.path (fn := Try.f47) [rF] _ rfl (fun _ => rfl) (fun k => by kernel_rfl) (AD (Does.tB (T_i_isMinute x0) h0) <| AN)
noncomputable def i_CivilOf_F (x0 : Int) : Option (GCivil × Bool) :=
    cond (isMinute x0)
      ((i_CivilOf_l0 9223372036854775808 (IntKind.wrap .i64 (Int.tdiv x0 (1440 : Int))) (1970 : Int)).bind fun y => match y with
        | .x0 w0_4 w0_6_0 => ((i_CivilOf_l1 w0_6_0 9223372036854775808 w0_4 (1 : Int)).bind fun y => match y with
          | .x2 w1_4 w1_6_1 => (some ((GCivil.mk w0_6_0 w1_6_1 (inc w1_4) (IntKind.wrap .i64 (Int.tdiv (Int.tmod x0 (1440 : Int)) (60 : Int))) (Int.tmod (Int.tmod x0 (1440 : Int)) (60 : Int))), true))))
      (some ((GCivil.mk (0 : Int) (0 : Int) (0 : Int) (0 : Int) (0 : Int)), false))
theorem i_CivilOf_D (x0 : Int) : Ans (i_CivilOf_F x0) (fun r => Does E 47 [.one (tI x0)] [(true, GCivil.t r.1), (false, [tB r.2])]) := by
  unfold i_CivilOf_F
  refine Ans.ite (fun h0 => ?_) (fun h0 => ?_)
  · refine Ans.bind (fun y hy => ?_)
    replace hy := i_CivilOf_L0 (0 : Int) (0 : Int) (0 : Int) (0 : Int) (0 : Int) (1 : Int) (0 : Int) (IntKind.wrap .i64 (Int.tdiv (Int.tmod x0 (1440 : Int)) (60 : Int))) (Int.tmod (Int.tmod x0 (1440 : Int)) (60 : Int)) 9223372036854775808 (IntKind.wrap .i64 (Int.tdiv x0 (1440 : Int))) (1970 : Int) y hy
    cases y with
    | x0 w0_4 w0_6_0 =>
      have h1 := hy
      refine Ans.bind (fun y hy => ?_)
      replace hy := i_CivilOf_L1 (0 : Int) (0 : Int) (0 : Int) (0 : Int) (0 : Int) w0_6_0 (0 : Int) (IntKind.wrap .i64 (Int.tdiv (Int.tmod x0 (1440 : Int)) (60 : Int))) (Int.tmod (Int.tmod x0 (1440 : Int)) (60 : Int)) 9223372036854775808 w0_4 (1 : Int) y hy
      cases y with
      | x2 w1_4 w1_6_1 =>
        have h2 := hy
        exact Ans.some (i_CivilOf_P0 x0 w0_4 w0_6_0 w1_4 w1_6_1 h0 h1 h2)
  · exact Ans.some (i_CivilOf_P1 x0 h0)
noncomputable def civilOf (x : Int) : GCivil × Bool := (s_CivilOf_F x).getD (⟨0, 0, 0, 0, 0⟩, false)
def cumY (k : Nat) : Int := 365 * (k : Int) + ((k : Int) + 1) / 4
theorem year_of (D : Int) (h0 : 0 ≤ D) : ∀ j : Nat, D < cumY j → ∃ k : Nat, k < j ∧ cumY k ≤ D ∧ D < cumY (k + 1)
  | 0, h => by simp [cumY] at h; omega
  | j + 1, h => by
    by_cases q : D < cumY j
    · obtain ⟨k, h1, h2⟩ := year_of D h0 j q
      exact ⟨k, by omega, h2⟩
    · exact ⟨j, by omega, by omega, h⟩
theorem sy_l (D : Int) (k : Nat) (hk : k < 130) (h1 : cumY k ≤ D) (h2 : D < cumY (k + 1)) : ∀ (m n : Nat) (j : Nat), j + m = k → m < n → s_CivilOf_l0 D n (1970 + (j : Int)) = some (.x0 (1970 + (k : Int)))
  | m, 0, j, _, hn => by omega
  | m, n + 1, j, hj, hn => by
    unfold s_CivilOf_l0
    have e : inc (1970 + (j : Int)) = 1970 + ((j + 1 : Nat) : Int) := by rw [inc_id _ (by omega) (by omega)]; omega
    rw [e, l09_at (j + 1) (by omega)]
    have c : 365 * ((j + 1 : Nat) : Int) + (((j + 1 : Nat) : Int) + 1) / 4 = cumY (j + 1) := rfl
    rw [c]
    match m, hj with
    | 0, hj =>
      have : j = k := by omega
      subst this
      rw [decide_eq_false (by omega)]
      rfl
    | m + 1, hj =>
      have : cumY (j + 1) ≤ cumY k := by unfold cumY; omega
      rw [decide_eq_true (by omega)]
      exact sy_l D k hk h1 h2 m n (j + 1) (by omega) (by omega)
theorem iy_l (D : Int) (k : Nat) (hk : k < 130) (h1 : cumY k ≤ D) (h2 : D < cumY (k + 1)) (hD : D < 100000) : ∀ (m n : Nat) (j : Nat), j + m = k → m < n → i_CivilOf_l0 n (D - cumY j) (1970 + (j : Int)) = some (.x0 (D - cumY k) (1970 + (k : Int)))
  | m, 0, j, _, hn => by omega
  | m, n + 1, j, hj, hn => by
    unfold i_CivilOf_l0
    have e : inc (1970 + (j : Int)) = 1970 + ((j + 1 : Nat) : Int) := by rw [inc_id _ (by omega) (by omega)]; omega
    have d : daysOf (1970 + (j : Int)) = cumY (j + 1) - cumY j := by rw [daysOf_at j (by omega)]; unfold cumY; omega
    rw [e, d]
    have p0 : 0 ≤ cumY j := by unfold cumY; omega
    match m, hj with
    | 0, hj =>
      have : j = k := by omega
      subst this
      rw [decide_eq_false (by omega)]
      rfl
    | m + 1, hj =>
      have : cumY (j + 1) ≤ cumY k := by unfold cumY; omega
      rw [decide_eq_true (by omega), cond_true]
      have w : IntKind.wrap .i64 (D - cumY j - (cumY (j + 1) - cumY j)) = D - cumY (j + 1) := by
        have : cumY (j + 1) ≤ 100000 ∧ 0 ≤ cumY (j + 1) := by unfold cumY; omega
        rw [wrap_id _ (by omega) (by omega)]; omega
      rw [w]
      exact iy_l D k hk h1 h2 hD m n (j + 1) (by omega) (by omega)
def remM (lp : Bool) (k : Nat) : Int := ((([31, cond lp 29 28, 31, 30, 31, 30, 31, 31, 30, 31, 30, 31] : List Int).drop k).foldr (· + ·) 0)
theorem remM_step (lp : Bool) (k : Nat) (h : k < 12) : remM lp k = ([31, cond lp 29 28, 31, 30, 31, 30, 31, 31, 30, 31, 30, 31] : List Int).getD k 0 + remM lp (k + 1) := by
  match k, h with
  | 0, _ => rfl
  | 1, _ => rfl
  | 2, _ => rfl
  | 3, _ => rfl
  | 4, _ => rfl
  | 5, _ => rfl
  | 6, _ => rfl
  | 7, _ => rfl
  | 8, _ => rfl
  | 9, _ => rfl
  | 10, _ => rfl
  | 11, _ => rfl
  | k + 12, h => omega
theorem remM_nn (lp : Bool) (k : Nat) (h : k < 12) : 28 ≤ ([31, cond lp 29 28, 31, 30, 31, 30, 31, 31, 30, 31, 30, 31] : List Int).getD k 0 :=
  match k, h with
  | 0, _ => by cases lp <;> decide
  | 1, _ => by cases lp <;> decide
  | 2, _ => by cases lp <;> decide
  | 3, _ => by cases lp <;> decide
  | 4, _ => by cases lp <;> decide
  | 5, _ => by cases lp <;> decide
  | 6, _ => by cases lp <;> decide
  | 7, _ => by cases lp <;> decide
  | 8, _ => by cases lp <;> decide
  | 9, _ => by cases lp <;> decide
  | 10, _ => by cases lp <;> decide
  | 11, _ => by cases lp <;> decide
  | k + 12, h => by omega
theorem month_l (y : Int) : ∀ (m n k : Nat) (v : Int), k + m = 12 → m < n → 0 ≤ v → v < remM (leapYear y) k → v < 1000 →
    ∃ a b, s_CivilOf_l1 y n v ((k : Int) + 1) = some (.x2 a b) ∧ i_CivilOf_l1 y n v ((k : Int) + 1) = some (.x2 a b) ∧ 0 ≤ a ∧ a < 31 ∧ 1 ≤ b ∧ b ≤ 12
  | m, 0, k, v, _, hn, _, _, _ => by omega
  | 0, n + 1, k, v, hk, _, h0, h1, _ => by
    have : k = 12 := by omega
    subst this
    have : remM (leapYear y) 12 = 0 := rfl
    omega
  | m + 1, n + 1, k, v, hk, hn, h0, h1, h2 => by
    have d := daysIn_at y k (by omega)
    have r := remM_step (leapYear y) k (by omega)
    have p := remM_nn (leapYear y) k (by omega)
    rw [← d] at r p
    have e : inc ((k : Int) + 1) = ((k + 1 : Nat) : Int) + 1 := by rw [inc_id _ (by omega) (by omega)]; omega
    unfold s_CivilOf_l1 i_CivilOf_l1
    rw [e]
    by_cases q : v ≥ daysIn y ((k : Int) + 1)
    · rw [decide_eq_true q, cond_true, cond_true, wrap_id _ (by omega) (by omega)]
      exact month_l y m n (k + 1) _ (by omega) (by omega) (by omega) (by omega) (by omega)
    · rw [decide_eq_false q]
      have u : daysIn y ((k : Int) + 1) ≤ 31 := by
        rw [d]
        match k, (show k < 12 by omega) with
        | 0, _ => cases leapYear y <;> decide
        | 1, _ => cases leapYear y <;> decide
        | 2, _ => cases leapYear y <;> decide
        | 3, _ => cases leapYear y <;> decide
        | 4, _ => cases leapYear y <;> decide
        | 5, _ => cases leapYear y <;> decide
        | 6, _ => cases leapYear y <;> decide
        | 7, _ => cases leapYear y <;> decide
        | 8, _ => cases leapYear y <;> decide
        | 9, _ => cases leapYear y <;> decide
        | 10, _ => cases leapYear y <;> decide
        | 11, _ => cases leapYear y <;> decide
        | k + 12, h => omega
      exact ⟨v, _, rfl, rfl, h0, by omega, by omega, by omega⟩
theorem rem0 (lp : Bool) : remM lp 0 = cond lp 366 365 := by cases lp <;> decide
theorem inRange_iff {x a b : Int} : inRange x a b = true ↔ a ≤ x ∧ x ≤ b := by unfold inRange; simp
theorem civil_day (d : Int) (h0 : 0 ≤ d) (h1 : d < 47482) : ∃ y m k : Int, ∀ x, Int.tdiv x 1440 = d → 0 ≤ x → x ≤ 68374079 →
    s_CivilOf_F x = some (⟨y, m, k, Int.tdiv (Int.tmod x 1440) 60, Int.tmod x 60⟩, true) ∧ i_CivilOf_F x = some (⟨y, m, k, Int.tdiv (Int.tmod x 1440) 60, Int.tmod x 60⟩, true) ∧ 1970 ≤ y ∧ y ≤ 2099 ∧ 1 ≤ m ∧ m ≤ 12 ∧ 1 ≤ k ∧ k ≤ 31 := by
  obtain ⟨k, k1, k2, k3⟩ := year_of d h0 130 (by unfold cumY; omega)
  have hle : d / 366 ≤ k := by unfold cumY at k3; omega
  have hst : (d / 366).toNat ≤ k := by omega
  have hs := sy_l d k k1 k2 k3 (k - (d / 366).toNat) 9223372036854775808 (d / 366).toNat (by omega) (by omega)
  have hi := iy_l d k k1 k2 k3 (by omega) k 9223372036854775808 0 (by omega) (by omega)
  have hd := daysOf_at k k1
  have hlp : daysOf (1970 + (k : Int)) = cond (leapYear (1970 + (k : Int))) 366 365 := rfl
  have hr := rem0 (leapYear (1970 + (k : Int)))
  rw [← hlp, hd] at hr
  have hv : d - cumY k < remM (leapYear (1970 + (k : Int))) 0 := by rw [hr]; unfold cumY at k2 k3 ⊢; omega
  obtain ⟨a, b, m1, m2, m3, m4, m5, m6⟩ := month_l (1970 + (k : Int)) 12 9223372036854775808 0 (d - cumY k) rfl (by omega) (by omega) hv (by unfold cumY at k2 k3 ⊢; omega)
  have z1 : (((0 : Nat) : Int) + 1) = 1 := rfl
  rw [z1] at m1 m2
  refine ⟨1970 + (k : Int), b, a + 1, fun x hx x0 x1 => ?_⟩
  have w0 : IntKind.wrap .i64 (Int.tdiv x 1440) = d := by rw [hx]; exact wrap_id _ (by omega) (by omega)
  have w1 : IntKind.wrap .i64 (1970 + IntKind.wrap .i64 (Int.tdiv d 366)) = 1970 + (((d / 366).toNat : Nat) : Int) := by
    rw [Int.tdiv_eq_ediv_of_nonneg h0, wrap_id (d / 366) (by omega) (by omega), wrap_id _ (by omega) (by omega)]; omega
  have w2 : IntKind.wrap .i64 (d - l09Year (1970 + (k : Int))) = d - cumY k := by
    rw [l09_at k (by omega)]
    show IntKind.wrap .i64 (d - cumY k) = _
    exact wrap_id _ (by unfold cumY at *; omega) (by unfold cumY at *; omega)
  have w3 : inc a = a + 1 := inc_id _ (by omega) (by omega)
  have t1 : 0 ≤ Int.tmod x 1440 := Int.tmod_nonneg _ x0
  have t2 : Int.tmod x 1440 < 1440 := Int.tmod_lt_of_pos _ (by omega)
  have w4 : IntKind.wrap .i64 (Int.tdiv (Int.tmod x 1440) 60) = Int.tdiv (Int.tmod x 1440) 60 := by
    rw [Int.tdiv_eq_ediv_of_nonneg t1]; exact wrap_id _ (by omega) (by omega)
  have w5 : Int.tmod (Int.tmod x 1440) 60 = Int.tmod x 60 := by
    rw [Int.tmod_eq_emod_of_nonneg t1, Int.tmod_eq_emod_of_nonneg x0, Int.tmod_eq_emod_of_nonneg x0]
    omega
  have hin : inRange x 0 68374079 = true := inRange_iff.2 ⟨x0, x1⟩
  have hmin : isMinute x = true := hin
  refine ⟨?_, ?_, by omega, by omega, m5, m6, by omega, by omega⟩
  · unfold s_CivilOf_F
    rw [hin, cond_true, w0, w1, hs, Option.bind_some]
    simp only
    rw [w2, m1, Option.bind_some]
    simp only
    rw [w3, w4]
  · unfold i_CivilOf_F
    rw [hmin, cond_true, w0]
    have z : (d - cumY 0) = d := by unfold cumY; omega
    have z2 : (1970 + ((0 : Nat) : Int)) = 1970 := rfl
    rw [z, z2] at hi
    rw [hi, Option.bind_some]
    simp only
    rw [m2, Option.bind_some]
    simp only
    rw [w3, w4, w5]
theorem day_of (x : Int) (h0 : 0 ≤ x) (h1 : x ≤ 68374079) : 0 ≤ Int.tdiv x 1440 ∧ Int.tdiv x 1440 < 47482 := by
  rw [Int.tdiv_eq_ediv_of_nonneg h0]; omega
theorem civil_ok (x : Int) : s_CivilOf_F x = some (civilOf x) ∧ i_CivilOf_F x = some (civilOf x) := by
  by_cases q : inRange x 0 68374079 = true
  · obtain ⟨a, b⟩ := inRange_iff.1 q
    obtain ⟨d0, d1⟩ := day_of x a b
    obtain ⟨y, m, k, h⟩ := civil_day _ d0 d1
    obtain ⟨h1, h2, _⟩ := h x rfl a b
    unfold civilOf
    rw [h1, h2]
    exact ⟨rfl, rfl⟩
  · rw [Bool.not_eq_true] at q
    have q2 : isMinute x = false := q
    unfold civilOf s_CivilOf_F i_CivilOf_F
    rw [q, q2]
    exact ⟨rfl, rfl⟩
theorem civil_same (x : Int) (h0 : 0 ≤ x) (h1 : x ≤ 68374079) : (civilOf x).1.f1 = (civilOf (x / 1440 * 1440)).1.f1 ∧ (civilOf x).1.f2 = (civilOf (x / 1440 * 1440)).1.f2 := by
  obtain ⟨d0, d1⟩ := day_of x h0 h1
  obtain ⟨y, m, k, h⟩ := civil_day _ d0 d1
  have e1 := (h x rfl h0 h1).1
  have e2 := (h (x / 1440 * 1440) (by rw [Int.tdiv_eq_ediv_of_nonneg h0, Int.tdiv_eq_ediv_of_nonneg (by omega)]; omega) (by omega) (by omega)).1
  unfold civilOf
  rw [e1, e2]
  exact ⟨rfl, rfl⟩
theorem T_s_CivilOf (x0 : Int) : Does E 42 [.one (tI x0)] [(true, GCivil.t ((civilOf x0).1)), (false, [tB ((civilOf x0).2)])] := by
  exact s_CivilOf_D x0 _ (civil_ok x0).1
theorem T_i_CivilOf (x0 : Int) : Does E 47 [.one (tI x0)] [(true, GCivil.t ((civilOf x0).1)), (false, [tB ((civilOf x0).2)])] := by
  exact i_CivilOf_D x0 _ (civil_ok x0).2
theorem s_WeekdayOf_P0 (x0 : Int) (h0 : (inRange x0 (0 : Int) (68374079 : Int)) = true) : Does E 43 [.one (tI x0)] [(false, [tI (Int.tmod (IntKind.wrap .i64 ((IntKind.wrap .i64 (Int.tdiv x0 (1440 : Int))) + (4 : Int))) (7 : Int))])] :=
  Does.path (fn := Try.f43) [rT] _ rfl (fun _ => rfl) (fun k => by kernel_rfl) (AD (Does.tB (T_s_l01In x0 (0 : Int) (68374079 : Int)) h0) <| AN)
theorem s_WeekdayOf_P1 (x0 : Int) (h0 : (inRange x0 (0 : Int) (68374079 : Int)) = false) : Does E 43 [.one (tI x0)] [(false, [tI (-1 : Int)])] :=
  Does.path (fn := Try.f43) [rF] _ rfl (fun _ => rfl) (fun k => by kernel_rfl) (AD (Does.tB (T_s_l01In x0 (0 : Int) (68374079 : Int)) h0) <| AN)
noncomputable def s_WeekdayOf_F (x0 : Int) : Option (Int) :=
    cond (inRange x0 (0 : Int) (68374079 : Int))
      (some (Int.tmod (IntKind.wrap .i64 ((IntKind.wrap .i64 (Int.tdiv x0 (1440 : Int))) + (4 : Int))) (7 : Int)))
      (some ((-1 : Int)))
theorem s_WeekdayOf_D (x0 : Int) : Ans (s_WeekdayOf_F x0) (fun r => Does E 43 [.one (tI x0)] [(false, [tI r])]) := by
  unfold s_WeekdayOf_F
  refine Ans.ite (fun h0 => ?_) (fun h0 => ?_)
  · exact Ans.some (s_WeekdayOf_P0 x0 h0)
  · exact Ans.some (s_WeekdayOf_P1 x0 h0)
theorem i_WeekdayOf_P0 (x0 : Int) (h0 : (isMinute x0) = true) : Does E 54 [.one (tI x0)] [(false, [tI (Int.tmod (IntKind.wrap .i64 ((IntKind.wrap .i64 (Int.tdiv x0 (1440 : Int))) + (4 : Int))) (7 : Int))])] :=
  Does.path (fn := Try.f54) [rT] _ rfl (fun _ => rfl) (fun k => by kernel_rfl) (AD (Does.tB (T_i_isMinute x0) h0) <| AN)
theorem i_WeekdayOf_P1 (x0 : Int) (h0 : (isMinute x0) = false) : Does E 54 [.one (tI x0)] [(false, [tI (-1 : Int)])] :=
  Does.path (fn := Try.f54) [rF] _ rfl (fun _ => rfl) (fun k => by kernel_rfl) (AD (Does.tB (T_i_isMinute x0) h0) <| AN)
noncomputable def i_WeekdayOf_F (x0 : Int) : Option (Int) :=
    cond (isMinute x0)
      (some (Int.tmod (IntKind.wrap .i64 ((IntKind.wrap .i64 (Int.tdiv x0 (1440 : Int))) + (4 : Int))) (7 : Int)))
      (some ((-1 : Int)))
theorem i_WeekdayOf_D (x0 : Int) : Ans (i_WeekdayOf_F x0) (fun r => Does E 54 [.one (tI x0)] [(false, [tI r])]) := by
  unfold i_WeekdayOf_F
  refine Ans.ite (fun h0 => ?_) (fun h0 => ?_)
  · exact Ans.some (i_WeekdayOf_P0 x0 h0)
  · exact Ans.some (i_WeekdayOf_P1 x0 h0)
noncomputable def weekdayOf (x : Int) : Int := (s_WeekdayOf_F x).getD 0
theorem week_ok (x : Int) : s_WeekdayOf_F x = some (weekdayOf x) ∧ i_WeekdayOf_F x = some (weekdayOf x) := by
  have e : i_WeekdayOf_F x = s_WeekdayOf_F x := rfl
  rw [e]
  refine ⟨?_, ?_⟩ <;>
  · refine Tot.getD ?_ _
    unfold s_WeekdayOf_F
    exact Tot.cond (Tot.some _) (Tot.some _)
theorem week_same (x : Int) (h0 : 0 ≤ x) (h1 : x ≤ 68374079) : weekdayOf x = weekdayOf (x / 1440 * 1440) := by
  unfold weekdayOf s_WeekdayOf_F
  rw [inRange_iff.2 ⟨h0, h1⟩, inRange_iff.2 ⟨(by omega : 0 ≤ x / 1440 * 1440), by omega⟩, cond_true, cond_true]
  have : Int.tdiv x 1440 = Int.tdiv (x / 1440 * 1440) 1440 := by rw [Int.tdiv_eq_ediv_of_nonneg h0, Int.tdiv_eq_ediv_of_nonneg (by omega)]; omega
  rw [this]
theorem T_s_WeekdayOf (x0 : Int) : Does E 43 [.one (tI x0)] [(false, [tI (weekdayOf x0)])] := by
  exact s_WeekdayOf_D x0 _ (week_ok x0).1
theorem T_i_WeekdayOf (x0 : Int) : Does E 54 [.one (tI x0)] [(false, [tI (weekdayOf x0)])] := by
  exact i_WeekdayOf_D x0 _ (week_ok x0).2
end Go.Proofs.Ytalapefcbodhaaa.Am
