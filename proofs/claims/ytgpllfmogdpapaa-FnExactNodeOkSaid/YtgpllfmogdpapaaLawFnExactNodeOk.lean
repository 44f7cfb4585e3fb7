/- 'laws.FnExactNodeOk' returns true for every node, and leaves the node as it was. Conditions: none. -/
import Derived.Test.YtgpllfmogdpapaaNodesB
import Derived.Test.YtgpllfmogdpapaaRows
import Derived.WalkKit
import Derived.ProofKit
import Derived.OpenShut
import Derived.ShutString
import Derived.ChangeOld
import Derived.Below
import Derived.SizedLaws
namespace Go.Proofs.Ytgpllfmogdpapaa.Am
set_option linter.unusedVariables false
set_option linter.unusedSimpArgs false
open Go Go.Proofs Classical
set_option maxRecDepth 100000
set_option linter.unusedVariables false
set_option linter.unusedSimpArgs false
theorem l_FnExactNodeOk_P0 (x0 : LNode) (h0 : Wf.wf x0) (h1 : (decide ((p_l_szNode x0 (1048576 : Int)) < (0 : Int))) = true) : Does E 4 [.agg (LNode.t .far x0)] [(false, [tB true])] :=
  Does.path (fn := Try.f4) [.ret [(false, [tI (p_l_szNode x0 (1048576 : Int))])], .b true] [fun k => E.C k 13 [.agg (LNode.t .far x0), .one (tI (1048576 : Int))] = some [(false, [tI (p_l_szNode x0 (1048576 : Int))])], fun _ => (decide ((p_l_szNode x0 (1048576 : Int)) < (0 : Int))) = true] rfl (fun _ => rfl) (fun k => by kernel_rfl) ⟨T_l_szNode x0 (1048576 : Int) h0, Ev.c h1, trivial⟩
theorem l_FnExactNodeOk_P1 (x0 : LNode) (h0 : Wf.wf x0) (h1 : (decide ((p_l_szNode x0 (1048576 : Int)) < (0 : Int))) = false) (h2 : Small.sm x0) (h3 : Small.sm (p_l_toNode x0)) (h4 : (!((nodeOk (p_l_toNode x0)) == (nodeOk (p_l_toNode x0)))) = true) : Does E 4 [.agg (LNode.t .far x0)] [(false, [tB false])] :=
  Does.path (fn := Try.f4) [.ret [(false, [tI (p_l_szNode x0 (1048576 : Int))])], .b false, .ret [(true, GNode.t .own (p_l_toNode x0))], .ret [(false, [tB (nodeOk (p_l_toNode x0))])], .ret [(true, GNode.t .own (p_l_toNode x0))], .ret [(false, [tB (nodeOk (p_l_toNode x0))])], .b true] [fun k => E.C k 13 [.agg (LNode.t .far x0), .one (tI (1048576 : Int))] = some [(false, [tI (p_l_szNode x0 (1048576 : Int))])], fun _ => (decide ((p_l_szNode x0 (1048576 : Int)) < (0 : Int))) = false, fun k => E.C k 15 [.agg (LNode.t .far x0)] = some [(true, GNode.t .own (p_l_toNode x0))], fun k => E.C k 22 [.agg (GNode.t .far (p_l_toNode x0))] = some [(false, [tB (nodeOk (p_l_toNode x0))])], fun k => E.C k 15 [.agg (LNode.t .far x0)] = some [(true, GNode.t .own (p_l_toNode x0))], fun k => E.C k 23 [.agg (GNode.t .far (p_l_toNode x0))] = some [(false, [tB (nodeOk (p_l_toNode x0))])], fun _ => (!((nodeOk (p_l_toNode x0)) == (nodeOk (p_l_toNode x0)))) = true] rfl (fun _ => rfl) (fun k => by kernel_rfl) ⟨T_l_szNode x0 (1048576 : Int) h0, Ev.c h1, T_l_toNode x0 h2, T_s_NodeOk (p_l_toNode x0) h3, T_l_toNode x0 h2, T_i_NodeOk (p_l_toNode x0) h3, Ev.c h4, trivial⟩
theorem l_FnExactNodeOk_P2 (x0 : LNode) (h0 : Wf.wf x0) (h1 : (decide ((p_l_szNode x0 (1048576 : Int)) < (0 : Int))) = false) (h2 : Small.sm x0) (h3 : Small.sm (p_l_toNode x0)) (h4 : (!((nodeOk (p_l_toNode x0)) == (nodeOk (p_l_toNode x0)))) = false) (h5 : (p_l_toNode x0) = (p_l_toNode x0)) (h6 : (yes (p_l_toNode x0) (p_l_toNode x0)) = true) : Does E 4 [.agg (LNode.t .far x0)] [(false, [tB true])] :=
  Does.path (fn := Try.f4) [.ret [(false, [tI (p_l_szNode x0 (1048576 : Int))])], .b false, .ret [(true, GNode.t .own (p_l_toNode x0))], .ret [(false, [tB (nodeOk (p_l_toNode x0))])], .ret [(true, GNode.t .own (p_l_toNode x0))], .ret [(false, [tB (nodeOk (p_l_toNode x0))])], .b false, .ret [(true, GNode.t .own (p_l_toNode x0))], .ret [(false, [tB true])]] [fun k => E.C k 13 [.agg (LNode.t .far x0), .one (tI (1048576 : Int))] = some [(false, [tI (p_l_szNode x0 (1048576 : Int))])], fun _ => (decide ((p_l_szNode x0 (1048576 : Int)) < (0 : Int))) = false, fun k => E.C k 15 [.agg (LNode.t .far x0)] = some [(true, GNode.t .own (p_l_toNode x0))], fun k => E.C k 22 [.agg (GNode.t .far (p_l_toNode x0))] = some [(false, [tB (nodeOk (p_l_toNode x0))])], fun k => E.C k 15 [.agg (LNode.t .far x0)] = some [(true, GNode.t .own (p_l_toNode x0))], fun k => E.C k 23 [.agg (GNode.t .far (p_l_toNode x0))] = some [(false, [tB (nodeOk (p_l_toNode x0))])], fun _ => (!((nodeOk (p_l_toNode x0)) == (nodeOk (p_l_toNode x0)))) = false, fun k => E.C k 15 [.agg (LNode.t .far x0)] = some [(true, GNode.t .own (p_l_toNode x0))], fun k => E.C k 18 [.agg (GNode.t .far (p_l_toNode x0)), .agg (GNode.t .far (p_l_toNode x0))] = some [(false, [tB true])]] rfl (fun _ => rfl) (fun k => by kernel_rfl) ⟨T_l_szNode x0 (1048576 : Int) h0, Ev.c h1, T_l_toNode x0 h2, T_s_NodeOk (p_l_toNode x0) h3, T_l_toNode x0 h2, T_i_NodeOk (p_l_toNode x0) h3, Ev.c h4, T_l_toNode x0 h2, Does.to (T_l_eqNode (p_l_toNode x0) (p_l_toNode x0) h5 h3) (by rw [h6]), trivial⟩
theorem l_FnExactNodeOk_P3 (x0 : LNode) (h0 : Wf.wf x0) (h1 : (decide ((p_l_szNode x0 (1048576 : Int)) < (0 : Int))) = false) (h2 : Small.sm x0) (h3 : Small.sm (p_l_toNode x0)) (h4 : (!((nodeOk (p_l_toNode x0)) == (nodeOk (p_l_toNode x0)))) = false) (h5 : (p_l_toNode x0) = (p_l_toNode x0)) (h6 : (yes (p_l_toNode x0) (p_l_toNode x0)) = false) : Does E 4 [.agg (LNode.t .far x0)] [(false, [tB false])] :=
  Does.path (fn := Try.f4) [.ret [(false, [tI (p_l_szNode x0 (1048576 : Int))])], .b false, .ret [(true, GNode.t .own (p_l_toNode x0))], .ret [(false, [tB (nodeOk (p_l_toNode x0))])], .ret [(true, GNode.t .own (p_l_toNode x0))], .ret [(false, [tB (nodeOk (p_l_toNode x0))])], .b false, .ret [(true, GNode.t .own (p_l_toNode x0))], .ret [(false, [tB false])]] [fun k => E.C k 13 [.agg (LNode.t .far x0), .one (tI (1048576 : Int))] = some [(false, [tI (p_l_szNode x0 (1048576 : Int))])], fun _ => (decide ((p_l_szNode x0 (1048576 : Int)) < (0 : Int))) = false, fun k => E.C k 15 [.agg (LNode.t .far x0)] = some [(true, GNode.t .own (p_l_toNode x0))], fun k => E.C k 22 [.agg (GNode.t .far (p_l_toNode x0))] = some [(false, [tB (nodeOk (p_l_toNode x0))])], fun k => E.C k 15 [.agg (LNode.t .far x0)] = some [(true, GNode.t .own (p_l_toNode x0))], fun k => E.C k 23 [.agg (GNode.t .far (p_l_toNode x0))] = some [(false, [tB (nodeOk (p_l_toNode x0))])], fun _ => (!((nodeOk (p_l_toNode x0)) == (nodeOk (p_l_toNode x0)))) = false, fun k => E.C k 15 [.agg (LNode.t .far x0)] = some [(true, GNode.t .own (p_l_toNode x0))], fun k => E.C k 18 [.agg (GNode.t .far (p_l_toNode x0)), .agg (GNode.t .far (p_l_toNode x0))] = some [(false, [tB false])]] rfl (fun _ => rfl) (fun k => by kernel_rfl) ⟨T_l_szNode x0 (1048576 : Int) h0, Ev.c h1, T_l_toNode x0 h2, T_s_NodeOk (p_l_toNode x0) h3, T_l_toNode x0 h2, T_i_NodeOk (p_l_toNode x0) h3, Ev.c h4, T_l_toNode x0 h2, Does.to (T_l_eqNode (p_l_toNode x0) (p_l_toNode x0) h5 h3) (by rw [h6]), trivial⟩
noncomputable def l_FnExactNodeOk_F (x0 : LNode) : Option (Bool) :=
    if Wf.wf x0 then cond (decide ((p_l_szNode x0 (1048576 : Int)) < (0 : Int)))
      (some (true))
      (if Small.sm x0 then if Small.sm (p_l_toNode x0) then cond (!((nodeOk (p_l_toNode x0)) == (nodeOk (p_l_toNode x0))))
        (some (false))
        (if (p_l_toNode x0) = (p_l_toNode x0) then cond (yes (p_l_toNode x0) (p_l_toNode x0))
          (some (true))
          (some (false)) else none) else none else none) else none
theorem l_FnExactNodeOk_D (x0 : LNode) : Ans (l_FnExactNodeOk_F x0) (fun r => Does E 4 [.agg (LNode.t .far x0)] [(false, [tB r])]) := by
  unfold l_FnExactNodeOk_F
  refine Ans.pre (fun h0 => ?_)
  refine Ans.ite (fun h1 => ?_) (fun h1 => ?_)
  · exact Ans.some (l_FnExactNodeOk_P0 x0 h0 h1)
  · refine Ans.pre (fun h2 => ?_)
    refine Ans.pre (fun h3 => ?_)
    refine Ans.ite (fun h4 => ?_) (fun h4 => ?_)
    · exact Ans.some (l_FnExactNodeOk_P1 x0 h0 h1 h2 h3 h4)
    · refine Ans.pre (fun h5 => ?_)
      refine Ans.ite (fun h6 => ?_) (fun h6 => ?_)
      · exact Ans.some (l_FnExactNodeOk_P2 x0 h0 h1 h2 h3 h4 h5 h6)
      · exact Ans.some (l_FnExactNodeOk_P3 x0 h0 h1 h2 h3 h4 h5 h6)
theorem T_law_NodeOk (x0 : LNode) (h : Wf.wf x0) : Does E 4 [.agg (LNode.t .far x0)] [(false, [tB true])] := by
  have hs := le_l_szNode x0 1048576 h (by omega) (by omega)
  exact l_FnExactNodeOk_D x0 _ (by
    unfold l_FnExactNodeOk_F
    refine lawPre h (lawSz fun q => ?_)
    have ht := sm_l_toNode (hs q).2
    simp [(hs q).2, ht, yes])
end Go.Proofs.Ytgpllfmogdpapaa.Am
namespace Go.Proofs.Ytgpllfmogdpapaa.fnExactNodeOk
open Go.ChangeShapes Go.WideShapes Go.ChangeAt Go.RowKit Go.Proofs.Ytgpllfmogdpapaa.Am
open Go.ChangeMaps (open_string shut_string)
set_option linter.unusedVariables false
set_option linter.unusedSimpArgs false
theorem own : ownKnob Try.prog.godebug = none := by kernel_rfl
theorem laid : laidOutB Try.prog = true := by kernel_rfl
theorem rowsOpen {α : Type} {enc : α → List (T Unit)} {B : α → Prop} : ∀ (rows : List (List DT)), (∀ r ∈ rows, ∃ x, erL r = enc x ∧ B x) → ∃ l : List α, rows.map erL = l.map enc ∧ l.length = rows.length ∧ ∀ y ∈ l, B y
  | [], _ => ⟨[], rfl, rfl, fun y h => by cases h⟩
  | r :: rs, h => by
    obtain ⟨x, h1, h2⟩ := h r (by simp)
    obtain ⟨l, g1, g2, g3⟩ := rowsOpen rs fun q hq => h q (by simp [hq])
    refine ⟨x :: l, by simp only [List.map_cons, h1, g1], by simp [g2], fun y hy => ?_⟩
    rcases List.mem_cons.1 hy with rfl | hy
    · exact h2
    · exact g3 y hy
def ty_GEntry : Ty := (.struct (.cons (.int .i64) (.cons (.int .i64) (.cons .str .nil))))
theorem open_GEntry {ts : List DT} (h : Shape ty_GEntry ts) : ∃ x : GEntry, erL ts = GEntry.t x ∧ Wf.wf x := by
  simp only [ty_GEntry, Shape, ShapeF] at h
  obtain ⟨xs0, ys0, rfl, s0, xs1, ys1, rfl, s1, xs2, ys2, rfl, s2, rfl⟩ := h
  obtain ⟨v0, rfl, k0⟩ := s0
  obtain ⟨v1, rfl, k1⟩ := s1
  obtain ⟨v2, rfl, k2⟩ := s2
  refine ⟨⟨v0, v1, v2⟩, ?_, k2⟩
  simp only [List.map_append, List.map_cons, List.map_nil, erL, er_s, er_v]
  rfl
def ty_LLog : Ty := (.struct (.cons (.int .i64) (.cons (.int .i64) (.cons (.slice (.struct (.cons (.int .i64) (.cons (.int .i64) (.cons .str .nil))))) .nil))))
theorem open_LLog {ts : List DT} (h : Shape ty_LLog ts) : ∃ x : LLog, erL ts = LLog.t .far x ∧ Wf.wf x := by
  simp only [ty_LLog, Shape, ShapeF] at h
  obtain ⟨xs0, ys0, rfl, s0, xs1, ys1, rfl, s1, xs2, ys2, rfl, s2, rfl⟩ := h
  obtain ⟨v0, rfl, k0⟩ := s0
  obtain ⟨v1, rfl, k1⟩ := s1
  obtain ⟨d2, r2, rfl, k2, a2⟩ := s2
  obtain ⟨v2, e2, b2, c2⟩ := rowsOpen (enc := GEntry.t) (B := Wf.wf) r2 (fun r hr => open_GEntry (by simp only [ty_GEntry, Shape, ShapeF]; exact a2 r hr))
  refine ⟨⟨v0, v1, v2⟩, ?_, ⟨by rw [b2]; exact k2, c2⟩⟩
  simp only [List.map_append, List.map_cons, List.map_nil, erL, er_s, er_v, e2]
  rfl
def ty_GPeer : Ty := (.struct (.cons (.int .i64) (.cons (.int .i64) (.cons (.int .i64) (.cons (.int .i64) .nil)))))
theorem open_GPeer {ts : List DT} (h : Shape ty_GPeer ts) : ∃ x : GPeer, erL ts = GPeer.t x ∧ Wf.wf x := by
  simp only [ty_GPeer, Shape, ShapeF] at h
  obtain ⟨xs0, ys0, rfl, s0, xs1, ys1, rfl, s1, xs2, ys2, rfl, s2, xs3, ys3, rfl, s3, rfl⟩ := h
  obtain ⟨v0, rfl, k0⟩ := s0
  obtain ⟨v1, rfl, k1⟩ := s1
  obtain ⟨v2, rfl, k2⟩ := s2
  obtain ⟨v3, rfl, k3⟩ := s3
  refine ⟨⟨v0, v1, v2, v3⟩, ?_, trivial⟩
  simp only [List.map_append, List.map_cons, List.map_nil, erL, er_s, er_v]
  rfl
def ty_LNode : Ty := (.struct (.cons (.int .i64) (.cons (.int .i64) (.cons (.int .i64) (.cons (.int .i64) (.cons (.int .i64) (.cons (.slice (.int .i64)) (.cons (.struct (.cons (.int .i64) (.cons (.int .i64) (.cons (.slice (.struct (.cons (.int .i64) (.cons (.int .i64) (.cons .str .nil))))) .nil)))) (.cons (.int .i64) (.cons (.int .i64) (.cons (.int .i64) (.cons (.slice (.int .i64)) (.cons (.slice (.struct (.cons (.int .i64) (.cons (.int .i64) (.cons (.int .i64) (.cons (.int .i64) .nil)))))) .nil)))))))))))))
theorem open_LNode {ts : List DT} (h : Shape ty_LNode ts) : ∃ x : LNode, erL ts = LNode.t .far x ∧ Wf.wf x := by
  simp only [ty_LNode, Shape, ShapeF] at h
  obtain ⟨xs0, ys0, rfl, s0, xs1, ys1, rfl, s1, xs2, ys2, rfl, s2, xs3, ys3, rfl, s3, xs4, ys4, rfl, s4, xs5, ys5, rfl, s5, xs6, ys6, rfl, s6, xs7, ys7, rfl, s7, xs8, ys8, rfl, s8, xs9, ys9, rfl, s9, xs10, ys10, rfl, s10, xs11, ys11, rfl, s11, rfl⟩ := h
  obtain ⟨v0, rfl, k0⟩ := s0
  obtain ⟨v1, rfl, k1⟩ := s1
  obtain ⟨v2, rfl, k2⟩ := s2
  obtain ⟨v3, rfl, k3⟩ := s3
  obtain ⟨v4, rfl, k4⟩ := s4
  obtain ⟨d5, r5, rfl, k5, a5⟩ := s5
  obtain ⟨v5, e5, b5, c5⟩ := rowsOpen (enc := etI) (B := Wf.wf) r5 (fun r hr => (by obtain ⟨n, rfl, hn⟩ := a5 r hr; exact ⟨n, rfl, trivial⟩))
  obtain ⟨v6, e6, k6⟩ := open_LLog (ts := xs6) (by simp only [ty_LLog, Shape, ShapeF]; exact s6)
  obtain ⟨v7, rfl, k7⟩ := s7
  obtain ⟨v8, rfl, k8⟩ := s8
  obtain ⟨v9, rfl, k9⟩ := s9
  obtain ⟨d10, r10, rfl, k10, a10⟩ := s10
  obtain ⟨v10, e10, b10, c10⟩ := rowsOpen (enc := etI) (B := Wf.wf) r10 (fun r hr => (by obtain ⟨n, rfl, hn⟩ := a10 r hr; exact ⟨n, rfl, trivial⟩))
  obtain ⟨d11, r11, rfl, k11, a11⟩ := s11
  obtain ⟨v11, e11, b11, c11⟩ := rowsOpen (enc := GPeer.t) (B := Wf.wf) r11 (fun r hr => open_GPeer (by simp only [ty_GPeer, Shape, ShapeF]; exact a11 r hr))
  refine ⟨⟨v0, v1, v2, v3, v4, v5, v6, v7, v8, v9, v10, v11⟩, ?_, ⟨⟨by rw [b5]; exact k5, c5⟩, k6, ⟨by rw [b10]; exact k10, c10⟩, ⟨by rw [b11]; exact k11, c11⟩⟩⟩
  simp only [List.map_append, List.map_cons, List.map_nil, erL, er_s, er_v, e5, e6, e10, e11]
  rfl
set_option maxRecDepth 100000 in
theorem lifted (os : Os) (started : os.Started) (H : Type) (enc : TypeId × Value → H) :
    ReturnsInHanded {} Try.checked os 4 .any (Rows.fnExactNodeOkSpec.pre6 enc Try.prog Try.f4 Rows.fnExactNodeOkRow.domain false) (Rows.fnExactNodeOkSpec.post enc Try.prog Try.f4 false true false false) := by
  refine returnsInHanded_of_change_sized (C := Try.checked) own started (by kernel_rfl) Try.func4
    (ChangeSpec.witness6 (enc := enc) (C := Try.checked) false ⟨#[], #[.agg #[.int .i64 0, .int .i64 0, .int .i64 0, .int .i64 0, .int .i64 0, .slice none 0 0, .int .i64 0, .int .i64 0, .slice none 0 0, .int .i64 0, .int .i64 0, .int .i64 0, .slice none 0 0, .slice none 0 0]], []⟩ 8 (by kernel_rfl) (by kernel_rfl) (by kernel_rfl) (by kernel_rfl)) ?_
  intro W base args ds gs before hval0 hW hcnd hsz0 _
  have hval : ∀ (j : Nat) t v, Try.f4.params[j]? = some t → args[j]? = some v → Value.okWide Try.prog W .any base t v := hval0
  have hW' := hW
  obtain ⟨p, q, hA0, hV, rfl, hfz, hnd⟩ := hW
  have hA : DataW.TrodAll enc Try.prog W 0 (fun _ => true) true Try.f4.params.toList args.toList ds p := hA0
  rw [Try.params4] at hA hval
  have hlt := hA.lt
  obtain ⟨v0, vs0, d0, ds0, p0, q0, hargs, rfl, rfl, h0, r0⟩ := trodAll_cons hA
  obtain ⟨rfl, rfl, rfl⟩ := trodAll_nil r0
  obtain rfl : args = #[v0] := by cases args; simp_all
  obtain ⟨rfl, rfl⟩ := trodVars_none hV
  have hok0 := hval 0 28 v0 rfl rfl
  unfold Value.okWide at hok0
  rw [Try.underlying28] at hok0
  obtain ⟨cs0, rfl, _, _⟩ := hok0
  have h0k := h0
  obtain ⟨n0, h0⟩ := h0
  obtain ⟨ts0, R0, S0, L0⟩ := Ty.open ty_LNode n0 28 _ _ (by kernel_rfl) h0
  obtain ⟨x0, e0, k0⟩ := open_LNode S0
  clear hA0 hval0 hsz0
  refine (runs (T_law_NodeOk x0 k0) (ad := [.agg ts0]) (by simp only [List.map_cons, List.map_nil, Sl.er, er_v, er_s]; rw [e0]) (ArgsIn.cons (AOk.agg R0 (Shape.noLent ty_LNode _ S0)) (ArgsIn.nil W))).mono fun e W' ⟨he, bel⟩ => ?_
  subst he
  exact ⟨_, rfl, _, _, _, [], _, [], hW', trodAll_mk1 (shut_bool Try.underlying4 _), (trodAll_cons_mk (Below.trod laid (by kernel_rfl) (of_decide_eq_true (by kernel_rfl)) h0k bel (fun x hx => hlt x (by simp [hx]))) trodAll_mk0), rfl, bel.frame _, fun h => by cases h⟩
theorem over : Rows.fnExactNodeOkRow.holds Try.pinned (OpenSpec.ofChange Rows.fnExactNodeOkSpec) :=
  OpenClaim.holds_of_wide 4 Try.f4 rfl rfl rfl rfl rfl rfl rfl ⟨rfl, rfl, rfl, rfl, rfl⟩ rfl rfl rfl rfl rfl (by kernel_rfl) Try.func4 (by kernel_rfl)
    (of_decide_eq_true (by kernel_rfl)) (by unfold Func.isWrapper; first | (rw [if_pos (by decide +kernel)]; kernel_rfl) | (rw [if_neg (by decide +kernel)]; exact ⟨rfl, rfl⟩))
    (fun os started H enc _ => lifted os started H enc)
theorem proved : Rows.FnExactNodeOkSaid := over
end Go.Proofs.Ytgpllfmogdpapaa.fnExactNodeOk
namespace Go.Proofs.Ytgpllfmogdpapaa
theorem fnExactNodeOk_holds : Rows.FnExactNodeOkSaid := fnExactNodeOk.proved
end Go.Proofs.Ytgpllfmogdpapaa
