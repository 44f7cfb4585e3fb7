/- What the functions under CommandText do. Conditions: none. -/
import Derived.Test.YtbphhigmepdohaaEnv
namespace Go.Proofs.Ytbphhigmepdohaa.Am
set_option linter.unusedVariables false
set_option linter.unusedSimpArgs false
open Go Go.Proofs Classical
set_option maxRecDepth 100000
set_option linter.unusedVariables false
structure S26 where
  f0 : Int
  f1 : Int
  f2 : Int
  f3 : ByteArray
  f4 : ByteArray
  f5 : Int
  f6 : Int
  f7 : Bool
def S26.t (x : S26) : List (T Unit) := [tI x.f0, tI x.f1, tI x.f2, tS x.f3, tS x.f4, tI x.f5, tI x.f6, tB x.f7]
def inRange (x a b : Int) : Bool := decide (x ≥ a) && decide (x ≤ b)
-- function 71: loop.example/g00188/spec.l01In
theorem L71_0 (x0 : Int) (x1 : Int) (x2 : Int) (h0 : (decide (x0 ≥ x1)) = true) : Does E 71 [.one (tI x0), .one (tI x1), .one (tI x2)] [(false, [tB (decide (x0 ≤ x2))])] :=
  Does.path (fn := Try.f71) [.b true] [fun _ => (decide (x0 ≥ x1)) = true] rfl rfl (fun k => by kernel_rfl) ⟨Ev.c h0, trivial⟩
theorem L71_1 (x0 : Int) (x1 : Int) (x2 : Int) (h0 : (decide (x0 ≥ x1)) = false) : Does E 71 [.one (tI x0), .one (tI x1), .one (tI x2)] [(false, [tB false])] :=
  Does.path (fn := Try.f71) [.b false] [fun _ => (decide (x0 ≥ x1)) = false] rfl rfl (fun k => by kernel_rfl) ⟨Ev.c h0, trivial⟩
noncomputable def sem71 (x0 : Int) (x1 : Int) (x2 : Int) : Option (Bool) :=
    cond (decide (x0 ≥ x1))
      (some (decide (x0 ≤ x2)))
      (some (false))
theorem D71 (x0 : Int) (x1 : Int) (x2 : Int) : Ans (sem71 x0 x1 x2) (fun r => Does E 71 [.one (tI x0), .one (tI x1), .one (tI x2)] [(false, [tB r])]) := by
  unfold sem71
  refine Ans.ite (fun h0 => ?_) (fun h0 => ?_)
  · exact Ans.some (L71_0 x0 x1 x2 h0)
  · exact Ans.some (L71_1 x0 x1 x2 h0)
-- function 72: loop.example/g00188/impl.inRange
theorem L72_0 (x0 : Int) (x1 : Int) (x2 : Int) (h0 : (decide (x0 ≥ x1)) = true) : Does E 72 [.one (tI x0), .one (tI x1), .one (tI x2)] [(false, [tB (decide (x0 ≤ x2))])] :=
  Does.path (fn := Try.f72) [.b true] [fun _ => (decide (x0 ≥ x1)) = true] rfl rfl (fun k => by kernel_rfl) ⟨Ev.c h0, trivial⟩
theorem L72_1 (x0 : Int) (x1 : Int) (x2 : Int) (h0 : (decide (x0 ≥ x1)) = false) : Does E 72 [.one (tI x0), .one (tI x1), .one (tI x2)] [(false, [tB false])] :=
  Does.path (fn := Try.f72) [.b false] [fun _ => (decide (x0 ≥ x1)) = false] rfl rfl (fun k => by kernel_rfl) ⟨Ev.c h0, trivial⟩
noncomputable def sem72 (x0 : Int) (x1 : Int) (x2 : Int) : Option (Bool) :=
    cond (decide (x0 ≥ x1))
      (some (decide (x0 ≤ x2)))
      (some (false))
theorem D72 (x0 : Int) (x1 : Int) (x2 : Int) : Ans (sem72 x0 x1 x2) (fun r => Does E 72 [.one (tI x0), .one (tI x1), .one (tI x2)] [(false, [tB r])]) := by
  unfold sem72
  refine Ans.ite (fun h0 => ?_) (fun h0 => ?_)
  · exact Ans.some (L72_0 x0 x1 x2 h0)
  · exact Ans.some (L72_1 x0 x1 x2 h0)
theorem T71 (x a b : Int) : Does E 71 [.one (tI x), .one (tI a), .one (tI b)] [(false, [tB (inRange x a b)])] := D71 x a b _ (by unfold sem71 inRange; cases decide (x ≥ a) <;> rfl)
theorem T72 (x a b : Int) : Does E 72 [.one (tI x), .one (tI a), .one (tI b)] [(false, [tB (inRange x a b)])] := D72 x a b _ (by unfold sem72 inRange; cases decide (x ≥ a) <;> rfl)
def isIndex (x : Int) : Bool := inRange x 0 1000000
def isMinute (x : Int) : Bool := inRange x 0 68374079
-- function 74: loop.example/g00188/impl.isIndex
theorem L74_0 (x0 : Int)  : Does E 74 [.one (tI x0)] [(false, [tB (inRange x0 (0 : Int) (1000000 : Int))])] :=
  Does.path (fn := Try.f74) [.ret [(false, [tB (inRange x0 (0 : Int) (1000000 : Int))])]] [fun k => E.C k 72 [.one (tI x0), .one (tI (0 : Int)), .one (tI (1000000 : Int))] = some [(false, [tB (inRange x0 (0 : Int) (1000000 : Int))])]] rfl rfl (fun k => by kernel_rfl) ⟨T72 x0 (0 : Int) (1000000 : Int), trivial⟩
noncomputable def sem74 (x0 : Int) : Option (Bool) :=
    some (inRange x0 (0 : Int) (1000000 : Int))
theorem D74 (x0 : Int) : Ans (sem74 x0) (fun r => Does E 74 [.one (tI x0)] [(false, [tB r])]) := by
  unfold sem74
  exact Ans.some (L74_0 x0)
-- function 75: loop.example/g00188/impl.isMinute
theorem L75_0 (x0 : Int)  : Does E 75 [.one (tI x0)] [(false, [tB (inRange x0 (0 : Int) (68374079 : Int))])] :=
  Does.path (fn := Try.f75) [.ret [(false, [tB (inRange x0 (0 : Int) (68374079 : Int))])]] [fun k => E.C k 72 [.one (tI x0), .one (tI (0 : Int)), .one (tI (68374079 : Int))] = some [(false, [tB (inRange x0 (0 : Int) (68374079 : Int))])]] rfl rfl (fun k => by kernel_rfl) ⟨T72 x0 (0 : Int) (68374079 : Int), trivial⟩
noncomputable def sem75 (x0 : Int) : Option (Bool) :=
    some (inRange x0 (0 : Int) (68374079 : Int))
theorem D75 (x0 : Int) : Ans (sem75 x0) (fun r => Does E 75 [.one (tI x0)] [(false, [tB r])]) := by
  unfold sem75
  exact Ans.some (L75_0 x0)
theorem T74 (x : Int) : Does E 74 [.one (tI x)] [(false, [tB (isIndex x)])] := D74 x _ rfl
theorem T75 (x : Int) : Does E 75 [.one (tI x)] [(false, [tB (isMinute x)])] := D75 x _ rfl
def rest (c : S26) (a b d e f : Bool) : Bool :=
  (a || c.f3.toList == ByteArray.empty.toList) && ((b || c.f4.toList == ByteArray.empty.toList) && ((d || c.f5 == 0) && ((e || c.f6 == 0) && (f || !c.f7))))
-- function 73: loop.example/g00188/spec.l16Rest
theorem L73_0 (x0 : S26)  : Does E 73 [.agg (S26.t x0), .one (tB true), .one (tB true), .one (tB true), .one (tB true), .one (tB true)] [(false, [tB true])] :=
  Does.path (fn := Try.f73) [] [] rfl rfl (fun k => by kernel_rfl) trivial
theorem L73_1 (x0 : S26)  : Does E 73 [.agg (S26.t x0), .one (tB true), .one (tB true), .one (tB true), .one (tB true), .one (tB false)] [(false, [tB (!x0.f7)])] :=
  Does.path (fn := Try.f73) [] [] rfl rfl (fun k => by kernel_rfl) trivial
theorem L73_2 (x0 : S26) (h0 : (x0.f6 == (0 : Int)) = true) : Does E 73 [.agg (S26.t x0), .one (tB true), .one (tB true), .one (tB true), .one (tB false), .one (tB true)] [(false, [tB true])] :=
  Does.path (fn := Try.f73) [.b true] [fun _ => (x0.f6 == (0 : Int)) = true] rfl rfl (fun k => by kernel_rfl) ⟨Ev.c h0, trivial⟩
theorem L73_3 (x0 : S26) (h0 : (x0.f6 == (0 : Int)) = true) : Does E 73 [.agg (S26.t x0), .one (tB true), .one (tB true), .one (tB true), .one (tB false), .one (tB false)] [(false, [tB (!x0.f7)])] :=
  Does.path (fn := Try.f73) [.b true] [fun _ => (x0.f6 == (0 : Int)) = true] rfl rfl (fun k => by kernel_rfl) ⟨Ev.c h0, trivial⟩
theorem L73_4 (x0 : S26) (x5 : Bool) (h0 : (x0.f6 == (0 : Int)) = false) : Does E 73 [.agg (S26.t x0), .one (tB true), .one (tB true), .one (tB true), .one (tB false), .one (tB x5)] [(false, [tB false])] :=
  Does.path (fn := Try.f73) [.b false] [fun _ => (x0.f6 == (0 : Int)) = false] rfl rfl (fun k => by kernel_rfl) ⟨Ev.c h0, trivial⟩
theorem L73_5 (x0 : S26) (h0 : (x0.f5 == (0 : Int)) = true) : Does E 73 [.agg (S26.t x0), .one (tB true), .one (tB true), .one (tB false), .one (tB true), .one (tB true)] [(false, [tB true])] :=
  Does.path (fn := Try.f73) [.b true] [fun _ => (x0.f5 == (0 : Int)) = true] rfl rfl (fun k => by kernel_rfl) ⟨Ev.c h0, trivial⟩
theorem L73_6 (x0 : S26) (h0 : (x0.f5 == (0 : Int)) = true) : Does E 73 [.agg (S26.t x0), .one (tB true), .one (tB true), .one (tB false), .one (tB true), .one (tB false)] [(false, [tB (!x0.f7)])] :=
  Does.path (fn := Try.f73) [.b true] [fun _ => (x0.f5 == (0 : Int)) = true] rfl rfl (fun k => by kernel_rfl) ⟨Ev.c h0, trivial⟩
theorem L73_7 (x0 : S26) (h0 : (x0.f5 == (0 : Int)) = true) (h1 : (x0.f6 == (0 : Int)) = true) : Does E 73 [.agg (S26.t x0), .one (tB true), .one (tB true), .one (tB false), .one (tB false), .one (tB true)] [(false, [tB true])] :=
  Does.path (fn := Try.f73) [.b true, .b true] [fun _ => (x0.f5 == (0 : Int)) = true, fun _ => (x0.f6 == (0 : Int)) = true] rfl rfl (fun k => by kernel_rfl) ⟨Ev.c h0, Ev.c h1, trivial⟩
theorem L73_8 (x0 : S26) (h0 : (x0.f5 == (0 : Int)) = true) (h1 : (x0.f6 == (0 : Int)) = true) : Does E 73 [.agg (S26.t x0), .one (tB true), .one (tB true), .one (tB false), .one (tB false), .one (tB false)] [(false, [tB (!x0.f7)])] :=
  Does.path (fn := Try.f73) [.b true, .b true] [fun _ => (x0.f5 == (0 : Int)) = true, fun _ => (x0.f6 == (0 : Int)) = true] rfl rfl (fun k => by kernel_rfl) ⟨Ev.c h0, Ev.c h1, trivial⟩
theorem L73_9 (x0 : S26) (x5 : Bool) (h0 : (x0.f5 == (0 : Int)) = true) (h1 : (x0.f6 == (0 : Int)) = false) : Does E 73 [.agg (S26.t x0), .one (tB true), .one (tB true), .one (tB false), .one (tB false), .one (tB x5)] [(false, [tB false])] :=
  Does.path (fn := Try.f73) [.b true, .b false] [fun _ => (x0.f5 == (0 : Int)) = true, fun _ => (x0.f6 == (0 : Int)) = false] rfl rfl (fun k => by kernel_rfl) ⟨Ev.c h0, Ev.c h1, trivial⟩
theorem L73_10 (x0 : S26) (x4 : Bool) (x5 : Bool) (h0 : (x0.f5 == (0 : Int)) = false) : Does E 73 [.agg (S26.t x0), .one (tB true), .one (tB true), .one (tB false), .one (tB x4), .one (tB x5)] [(false, [tB false])] :=
  Does.path (fn := Try.f73) [.b false] [fun _ => (x0.f5 == (0 : Int)) = false] rfl rfl (fun k => by kernel_rfl) ⟨Ev.c h0, trivial⟩
theorem L73_11 (x0 : S26) (h0 : (x0.f4.toList == ByteArray.empty.toList) = true) : Does E 73 [.agg (S26.t x0), .one (tB true), .one (tB false), .one (tB true), .one (tB true), .one (tB true)] [(false, [tB true])] :=
  Does.path (fn := Try.f73) [.b true] [fun _ => (x0.f4.toList == ByteArray.empty.toList) = true] rfl rfl (fun k => by kernel_rfl) ⟨Ev.c h0, trivial⟩
theorem L73_12 (x0 : S26) (h0 : (x0.f4.toList == ByteArray.empty.toList) = true) : Does E 73 [.agg (S26.t x0), .one (tB true), .one (tB false), .one (tB true), .one (tB true), .one (tB false)] [(false, [tB (!x0.f7)])] :=
  Does.path (fn := Try.f73) [.b true] [fun _ => (x0.f4.toList == ByteArray.empty.toList) = true] rfl rfl (fun k => by kernel_rfl) ⟨Ev.c h0, trivial⟩
theorem L73_13 (x0 : S26) (h0 : (x0.f4.toList == ByteArray.empty.toList) = true) (h1 : (x0.f6 == (0 : Int)) = true) : Does E 73 [.agg (S26.t x0), .one (tB true), .one (tB false), .one (tB true), .one (tB false), .one (tB true)] [(false, [tB true])] :=
  Does.path (fn := Try.f73) [.b true, .b true] [fun _ => (x0.f4.toList == ByteArray.empty.toList) = true, fun _ => (x0.f6 == (0 : Int)) = true] rfl rfl (fun k => by kernel_rfl) ⟨Ev.c h0, Ev.c h1, trivial⟩
theorem L73_14 (x0 : S26) (h0 : (x0.f4.toList == ByteArray.empty.toList) = true) (h1 : (x0.f6 == (0 : Int)) = true) : Does E 73 [.agg (S26.t x0), .one (tB true), .one (tB false), .one (tB true), .one (tB false), .one (tB false)] [(false, [tB (!x0.f7)])] :=
  Does.path (fn := Try.f73) [.b true, .b true] [fun _ => (x0.f4.toList == ByteArray.empty.toList) = true, fun _ => (x0.f6 == (0 : Int)) = true] rfl rfl (fun k => by kernel_rfl) ⟨Ev.c h0, Ev.c h1, trivial⟩
theorem L73_15 (x0 : S26) (x5 : Bool) (h0 : (x0.f4.toList == ByteArray.empty.toList) = true) (h1 : (x0.f6 == (0 : Int)) = false) : Does E 73 [.agg (S26.t x0), .one (tB true), .one (tB false), .one (tB true), .one (tB false), .one (tB x5)] [(false, [tB false])] :=
  Does.path (fn := Try.f73) [.b true, .b false] [fun _ => (x0.f4.toList == ByteArray.empty.toList) = true, fun _ => (x0.f6 == (0 : Int)) = false] rfl rfl (fun k => by kernel_rfl) ⟨Ev.c h0, Ev.c h1, trivial⟩
theorem L73_16 (x0 : S26) (h0 : (x0.f4.toList == ByteArray.empty.toList) = true) (h1 : (x0.f5 == (0 : Int)) = true) : Does E 73 [.agg (S26.t x0), .one (tB true), .one (tB false), .one (tB false), .one (tB true), .one (tB true)] [(false, [tB true])] :=
  Does.path (fn := Try.f73) [.b true, .b true] [fun _ => (x0.f4.toList == ByteArray.empty.toList) = true, fun _ => (x0.f5 == (0 : Int)) = true] rfl rfl (fun k => by kernel_rfl) ⟨Ev.c h0, Ev.c h1, trivial⟩
theorem L73_17 (x0 : S26) (h0 : (x0.f4.toList == ByteArray.empty.toList) = true) (h1 : (x0.f5 == (0 : Int)) = true) : Does E 73 [.agg (S26.t x0), .one (tB true), .one (tB false), .one (tB false), .one (tB true), .one (tB false)] [(false, [tB (!x0.f7)])] :=
  Does.path (fn := Try.f73) [.b true, .b true] [fun _ => (x0.f4.toList == ByteArray.empty.toList) = true, fun _ => (x0.f5 == (0 : Int)) = true] rfl rfl (fun k => by kernel_rfl) ⟨Ev.c h0, Ev.c h1, trivial⟩
theorem L73_18 (x0 : S26) (h0 : (x0.f4.toList == ByteArray.empty.toList) = true) (h1 : (x0.f5 == (0 : Int)) = true) (h2 : (x0.f6 == (0 : Int)) = true) : Does E 73 [.agg (S26.t x0), .one (tB true), .one (tB false), .one (tB false), .one (tB false), .one (tB true)] [(false, [tB true])] :=
  Does.path (fn := Try.f73) [.b true, .b true, .b true] [fun _ => (x0.f4.toList == ByteArray.empty.toList) = true, fun _ => (x0.f5 == (0 : Int)) = true, fun _ => (x0.f6 == (0 : Int)) = true] rfl rfl (fun k => by kernel_rfl) ⟨Ev.c h0, Ev.c h1, Ev.c h2, trivial⟩
theorem L73_19 (x0 : S26) (h0 : (x0.f4.toList == ByteArray.empty.toList) = true) (h1 : (x0.f5 == (0 : Int)) = true) (h2 : (x0.f6 == (0 : Int)) = true) : Does E 73 [.agg (S26.t x0), .one (tB true), .one (tB false), .one (tB false), .one (tB false), .one (tB false)] [(false, [tB (!x0.f7)])] :=
  Does.path (fn := Try.f73) [.b true, .b true, .b true] [fun _ => (x0.f4.toList == ByteArray.empty.toList) = true, fun _ => (x0.f5 == (0 : Int)) = true, fun _ => (x0.f6 == (0 : Int)) = true] rfl rfl (fun k => by kernel_rfl) ⟨Ev.c h0, Ev.c h1, Ev.c h2, trivial⟩
theorem L73_20 (x0 : S26) (x5 : Bool) (h0 : (x0.f4.toList == ByteArray.empty.toList) = true) (h1 : (x0.f5 == (0 : Int)) = true) (h2 : (x0.f6 == (0 : Int)) = false) : Does E 73 [.agg (S26.t x0), .one (tB true), .one (tB false), .one (tB false), .one (tB false), .one (tB x5)] [(false, [tB false])] :=
  Does.path (fn := Try.f73) [.b true, .b true, .b false] [fun _ => (x0.f4.toList == ByteArray.empty.toList) = true, fun _ => (x0.f5 == (0 : Int)) = true, fun _ => (x0.f6 == (0 : Int)) = false] rfl rfl (fun k => by kernel_rfl) ⟨Ev.c h0, Ev.c h1, Ev.c h2, trivial⟩
theorem L73_21 (x0 : S26) (x4 : Bool) (x5 : Bool) (h0 : (x0.f4.toList == ByteArray.empty.toList) = true) (h1 : (x0.f5 == (0 : Int)) = false) : Does E 73 [.agg (S26.t x0), .one (tB true), .one (tB false), .one (tB false), .one (tB x4), .one (tB x5)] [(false, [tB false])] :=
  Does.path (fn := Try.f73) [.b true, .b false] [fun _ => (x0.f4.toList == ByteArray.empty.toList) = true, fun _ => (x0.f5 == (0 : Int)) = false] rfl rfl (fun k => by kernel_rfl) ⟨Ev.c h0, Ev.c h1, trivial⟩
theorem L73_22 (x0 : S26) (x3 : Bool) (x4 : Bool) (x5 : Bool) (h0 : (x0.f4.toList == ByteArray.empty.toList) = false) : Does E 73 [.agg (S26.t x0), .one (tB true), .one (tB false), .one (tB x3), .one (tB x4), .one (tB x5)] [(false, [tB false])] :=
  Does.path (fn := Try.f73) [.b false] [fun _ => (x0.f4.toList == ByteArray.empty.toList) = false] rfl rfl (fun k => by kernel_rfl) ⟨Ev.c h0, trivial⟩
theorem L73_23 (x0 : S26) (h0 : (x0.f3.toList == ByteArray.empty.toList) = true) : Does E 73 [.agg (S26.t x0), .one (tB false), .one (tB true), .one (tB true), .one (tB true), .one (tB true)] [(false, [tB true])] :=
  Does.path (fn := Try.f73) [.b true] [fun _ => (x0.f3.toList == ByteArray.empty.toList) = true] rfl rfl (fun k => by kernel_rfl) ⟨Ev.c h0, trivial⟩
theorem L73_24 (x0 : S26) (h0 : (x0.f3.toList == ByteArray.empty.toList) = true) : Does E 73 [.agg (S26.t x0), .one (tB false), .one (tB true), .one (tB true), .one (tB true), .one (tB false)] [(false, [tB (!x0.f7)])] :=
  Does.path (fn := Try.f73) [.b true] [fun _ => (x0.f3.toList == ByteArray.empty.toList) = true] rfl rfl (fun k => by kernel_rfl) ⟨Ev.c h0, trivial⟩
theorem L73_25 (x0 : S26) (h0 : (x0.f3.toList == ByteArray.empty.toList) = true) (h1 : (x0.f6 == (0 : Int)) = true) : Does E 73 [.agg (S26.t x0), .one (tB false), .one (tB true), .one (tB true), .one (tB false), .one (tB true)] [(false, [tB true])] :=
  Does.path (fn := Try.f73) [.b true, .b true] [fun _ => (x0.f3.toList == ByteArray.empty.toList) = true, fun _ => (x0.f6 == (0 : Int)) = true] rfl rfl (fun k => by kernel_rfl) ⟨Ev.c h0, Ev.c h1, trivial⟩
theorem L73_26 (x0 : S26) (h0 : (x0.f3.toList == ByteArray.empty.toList) = true) (h1 : (x0.f6 == (0 : Int)) = true) : Does E 73 [.agg (S26.t x0), .one (tB false), .one (tB true), .one (tB true), .one (tB false), .one (tB false)] [(false, [tB (!x0.f7)])] :=
  Does.path (fn := Try.f73) [.b true, .b true] [fun _ => (x0.f3.toList == ByteArray.empty.toList) = true, fun _ => (x0.f6 == (0 : Int)) = true] rfl rfl (fun k => by kernel_rfl) ⟨Ev.c h0, Ev.c h1, trivial⟩
theorem L73_27 (x0 : S26) (x5 : Bool) (h0 : (x0.f3.toList == ByteArray.empty.toList) = true) (h1 : (x0.f6 == (0 : Int)) = false) : Does E 73 [.agg (S26.t x0), .one (tB false), .one (tB true), .one (tB true), .one (tB false), .one (tB x5)] [(false, [tB false])] :=
  Does.path (fn := Try.f73) [.b true, .b false] [fun _ => (x0.f3.toList == ByteArray.empty.toList) = true, fun _ => (x0.f6 == (0 : Int)) = false] rfl rfl (fun k => by kernel_rfl) ⟨Ev.c h0, Ev.c h1, trivial⟩
theorem L73_28 (x0 : S26) (h0 : (x0.f3.toList == ByteArray.empty.toList) = true) (h1 : (x0.f5 == (0 : Int)) = true) : Does E 73 [.agg (S26.t x0), .one (tB false), .one (tB true), .one (tB false), .one (tB true), .one (tB true)] [(false, [tB true])] :=
  Does.path (fn := Try.f73) [.b true, .b true] [fun _ => (x0.f3.toList == ByteArray.empty.toList) = true, fun _ => (x0.f5 == (0 : Int)) = true] rfl rfl (fun k => by kernel_rfl) ⟨Ev.c h0, Ev.c h1, trivial⟩
theorem L73_29 (x0 : S26) (h0 : (x0.f3.toList == ByteArray.empty.toList) = true) (h1 : (x0.f5 == (0 : Int)) = true) : Does E 73 [.agg (S26.t x0), .one (tB false), .one (tB true), .one (tB false), .one (tB true), .one (tB false)] [(false, [tB (!x0.f7)])] :=
  Does.path (fn := Try.f73) [.b true, .b true] [fun _ => (x0.f3.toList == ByteArray.empty.toList) = true, fun _ => (x0.f5 == (0 : Int)) = true] rfl rfl (fun k => by kernel_rfl) ⟨Ev.c h0, Ev.c h1, trivial⟩
theorem L73_30 (x0 : S26) (h0 : (x0.f3.toList == ByteArray.empty.toList) = true) (h1 : (x0.f5 == (0 : Int)) = true) (h2 : (x0.f6 == (0 : Int)) = true) : Does E 73 [.agg (S26.t x0), .one (tB false), .one (tB true), .one (tB false), .one (tB false), .one (tB true)] [(false, [tB true])] :=
  Does.path (fn := Try.f73) [.b true, .b true, .b true] [fun _ => (x0.f3.toList == ByteArray.empty.toList) = true, fun _ => (x0.f5 == (0 : Int)) = true, fun _ => (x0.f6 == (0 : Int)) = true] rfl rfl (fun k => by kernel_rfl) ⟨Ev.c h0, Ev.c h1, Ev.c h2, trivial⟩
theorem L73_31 (x0 : S26) (h0 : (x0.f3.toList == ByteArray.empty.toList) = true) (h1 : (x0.f5 == (0 : Int)) = true) (h2 : (x0.f6 == (0 : Int)) = true) : Does E 73 [.agg (S26.t x0), .one (tB false), .one (tB true), .one (tB false), .one (tB false), .one (tB false)] [(false, [tB (!x0.f7)])] :=
  Does.path (fn := Try.f73) [.b true, .b true, .b true] [fun _ => (x0.f3.toList == ByteArray.empty.toList) = true, fun _ => (x0.f5 == (0 : Int)) = true, fun _ => (x0.f6 == (0 : Int)) = true] rfl rfl (fun k => by kernel_rfl) ⟨Ev.c h0, Ev.c h1, Ev.c h2, trivial⟩
theorem L73_32 (x0 : S26) (x5 : Bool) (h0 : (x0.f3.toList == ByteArray.empty.toList) = true) (h1 : (x0.f5 == (0 : Int)) = true) (h2 : (x0.f6 == (0 : Int)) = false) : Does E 73 [.agg (S26.t x0), .one (tB false), .one (tB true), .one (tB false), .one (tB false), .one (tB x5)] [(false, [tB false])] :=
  Does.path (fn := Try.f73) [.b true, .b true, .b false] [fun _ => (x0.f3.toList == ByteArray.empty.toList) = true, fun _ => (x0.f5 == (0 : Int)) = true, fun _ => (x0.f6 == (0 : Int)) = false] rfl rfl (fun k => by kernel_rfl) ⟨Ev.c h0, Ev.c h1, Ev.c h2, trivial⟩
theorem L73_33 (x0 : S26) (x4 : Bool) (x5 : Bool) (h0 : (x0.f3.toList == ByteArray.empty.toList) = true) (h1 : (x0.f5 == (0 : Int)) = false) : Does E 73 [.agg (S26.t x0), .one (tB false), .one (tB true), .one (tB false), .one (tB x4), .one (tB x5)] [(false, [tB false])] :=
  Does.path (fn := Try.f73) [.b true, .b false] [fun _ => (x0.f3.toList == ByteArray.empty.toList) = true, fun _ => (x0.f5 == (0 : Int)) = false] rfl rfl (fun k => by kernel_rfl) ⟨Ev.c h0, Ev.c h1, trivial⟩
theorem L73_34 (x0 : S26) (h0 : (x0.f3.toList == ByteArray.empty.toList) = true) (h1 : (x0.f4.toList == ByteArray.empty.toList) = true) : Does E 73 [.agg (S26.t x0), .one (tB false), .one (tB false), .one (tB true), .one (tB true), .one (tB true)] [(false, [tB true])] :=
  Does.path (fn := Try.f73) [.b true, .b true] [fun _ => (x0.f3.toList == ByteArray.empty.toList) = true, fun _ => (x0.f4.toList == ByteArray.empty.toList) = true] rfl rfl (fun k => by kernel_rfl) ⟨Ev.c h0, Ev.c h1, trivial⟩
theorem L73_35 (x0 : S26) (h0 : (x0.f3.toList == ByteArray.empty.toList) = true) (h1 : (x0.f4.toList == ByteArray.empty.toList) = true) : Does E 73 [.agg (S26.t x0), .one (tB false), .one (tB false), .one (tB true), .one (tB true), .one (tB false)] [(false, [tB (!x0.f7)])] :=
  Does.path (fn := Try.f73) [.b true, .b true] [fun _ => (x0.f3.toList == ByteArray.empty.toList) = true, fun _ => (x0.f4.toList == ByteArray.empty.toList) = true] rfl rfl (fun k => by kernel_rfl) ⟨Ev.c h0, Ev.c h1, trivial⟩
theorem L73_36 (x0 : S26) (h0 : (x0.f3.toList == ByteArray.empty.toList) = true) (h1 : (x0.f4.toList == ByteArray.empty.toList) = true) (h2 : (x0.f6 == (0 : Int)) = true) : Does E 73 [.agg (S26.t x0), .one (tB false), .one (tB false), .one (tB true), .one (tB false), .one (tB true)] [(false, [tB true])] :=
  Does.path (fn := Try.f73) [.b true, .b true, .b true] [fun _ => (x0.f3.toList == ByteArray.empty.toList) = true, fun _ => (x0.f4.toList == ByteArray.empty.toList) = true, fun _ => (x0.f6 == (0 : Int)) = true] rfl rfl (fun k => by kernel_rfl) ⟨Ev.c h0, Ev.c h1, Ev.c h2, trivial⟩
theorem L73_37 (x0 : S26) (h0 : (x0.f3.toList == ByteArray.empty.toList) = true) (h1 : (x0.f4.toList == ByteArray.empty.toList) = true) (h2 : (x0.f6 == (0 : Int)) = true) : Does E 73 [.agg (S26.t x0), .one (tB false), .one (tB false), .one (tB true), .one (tB false), .one (tB false)] [(false, [tB (!x0.f7)])] :=
  Does.path (fn := Try.f73) [.b true, .b true, .b true] [fun _ => (x0.f3.toList == ByteArray.empty.toList) = true, fun _ => (x0.f4.toList == ByteArray.empty.toList) = true, fun _ => (x0.f6 == (0 : Int)) = true] rfl rfl (fun k => by kernel_rfl) ⟨Ev.c h0, Ev.c h1, Ev.c h2, trivial⟩
theorem L73_38 (x0 : S26) (x5 : Bool) (h0 : (x0.f3.toList == ByteArray.empty.toList) = true) (h1 : (x0.f4.toList == ByteArray.empty.toList) = true) (h2 : (x0.f6 == (0 : Int)) = false) : Does E 73 [.agg (S26.t x0), .one (tB false), .one (tB false), .one (tB true), .one (tB false), .one (tB x5)] [(false, [tB false])] :=
  Does.path (fn := Try.f73) [.b true, .b true, .b false] [fun _ => (x0.f3.toList == ByteArray.empty.toList) = true, fun _ => (x0.f4.toList == ByteArray.empty.toList) = true, fun _ => (x0.f6 == (0 : Int)) = false] rfl rfl (fun k => by kernel_rfl) ⟨Ev.c h0, Ev.c h1, Ev.c h2, trivial⟩
theorem L73_39 (x0 : S26) (h0 : (x0.f3.toList == ByteArray.empty.toList) = true) (h1 : (x0.f4.toList == ByteArray.empty.toList) = true) (h2 : (x0.f5 == (0 : Int)) = true) : Does E 73 [.agg (S26.t x0), .one (tB false), .one (tB false), .one (tB false), .one (tB true), .one (tB true)] [(false, [tB true])] :=
  Does.path (fn := Try.f73) [.b true, .b true, .b true] [fun _ => (x0.f3.toList == ByteArray.empty.toList) = true, fun _ => (x0.f4.toList == ByteArray.empty.toList) = true, fun _ => (x0.f5 == (0 : Int)) = true] rfl rfl (fun k => by kernel_rfl) ⟨Ev.c h0, Ev.c h1, Ev.c h2, trivial⟩
theorem L73_40 (x0 : S26) (h0 : (x0.f3.toList == ByteArray.empty.toList) = true) (h1 : (x0.f4.toList == ByteArray.empty.toList) = true) (h2 : (x0.f5 == (0 : Int)) = true) : Does E 73 [.agg (S26.t x0), .one (tB false), .one (tB false), .one (tB false), .one (tB true), .one (tB false)] [(false, [tB (!x0.f7)])] :=
  Does.path (fn := Try.f73) [.b true, .b true, .b true] [fun _ => (x0.f3.toList == ByteArray.empty.toList) = true, fun _ => (x0.f4.toList == ByteArray.empty.toList) = true, fun _ => (x0.f5 == (0 : Int)) = true] rfl rfl (fun k => by kernel_rfl) ⟨Ev.c h0, Ev.c h1, Ev.c h2, trivial⟩
theorem L73_41 (x0 : S26) (h0 : (x0.f3.toList == ByteArray.empty.toList) = true) (h1 : (x0.f4.toList == ByteArray.empty.toList) = true) (h2 : (x0.f5 == (0 : Int)) = true) (h3 : (x0.f6 == (0 : Int)) = true) : Does E 73 [.agg (S26.t x0), .one (tB false), .one (tB false), .one (tB false), .one (tB false), .one (tB true)] [(false, [tB true])] :=
  Does.path (fn := Try.f73) [.b true, .b true, .b true, .b true] [fun _ => (x0.f3.toList == ByteArray.empty.toList) = true, fun _ => (x0.f4.toList == ByteArray.empty.toList) = true, fun _ => (x0.f5 == (0 : Int)) = true, fun _ => (x0.f6 == (0 : Int)) = true] rfl rfl (fun k => by kernel_rfl) ⟨Ev.c h0, Ev.c h1, Ev.c h2, Ev.c h3, trivial⟩
theorem L73_42 (x0 : S26) (h0 : (x0.f3.toList == ByteArray.empty.toList) = true) (h1 : (x0.f4.toList == ByteArray.empty.toList) = true) (h2 : (x0.f5 == (0 : Int)) = true) (h3 : (x0.f6 == (0 : Int)) = true) : Does E 73 [.agg (S26.t x0), .one (tB false), .one (tB false), .one (tB false), .one (tB false), .one (tB false)] [(false, [tB (!x0.f7)])] :=
  Does.path (fn := Try.f73) [.b true, .b true, .b true, .b true] [fun _ => (x0.f3.toList == ByteArray.empty.toList) = true, fun _ => (x0.f4.toList == ByteArray.empty.toList) = true, fun _ => (x0.f5 == (0 : Int)) = true, fun _ => (x0.f6 == (0 : Int)) = true] rfl rfl (fun k => by kernel_rfl) ⟨Ev.c h0, Ev.c h1, Ev.c h2, Ev.c h3, trivial⟩
theorem L73_43 (x0 : S26) (x5 : Bool) (h0 : (x0.f3.toList == ByteArray.empty.toList) = true) (h1 : (x0.f4.toList == ByteArray.empty.toList) = true) (h2 : (x0.f5 == (0 : Int)) = true) (h3 : (x0.f6 == (0 : Int)) = false) : Does E 73 [.agg (S26.t x0), .one (tB false), .one (tB false), .one (tB false), .one (tB false), .one (tB x5)] [(false, [tB false])] :=
  Does.path (fn := Try.f73) [.b true, .b true, .b true, .b false] [fun _ => (x0.f3.toList == ByteArray.empty.toList) = true, fun _ => (x0.f4.toList == ByteArray.empty.toList) = true, fun _ => (x0.f5 == (0 : Int)) = true, fun _ => (x0.f6 == (0 : Int)) = false] rfl rfl (fun k => by kernel_rfl) ⟨Ev.c h0, Ev.c h1, Ev.c h2, Ev.c h3, trivial⟩
theorem L73_44 (x0 : S26) (x4 : Bool) (x5 : Bool) (h0 : (x0.f3.toList == ByteArray.empty.toList) = true) (h1 : (x0.f4.toList == ByteArray.empty.toList) = true) (h2 : (x0.f5 == (0 : Int)) = false) : Does E 73 [.agg (S26.t x0), .one (tB false), .one (tB false), .one (tB false), .one (tB x4), .one (tB x5)] [(false, [tB false])] :=
  Does.path (fn := Try.f73) [.b true, .b true, .b false] [fun _ => (x0.f3.toList == ByteArray.empty.toList) = true, fun _ => (x0.f4.toList == ByteArray.empty.toList) = true, fun _ => (x0.f5 == (0 : Int)) = false] rfl rfl (fun k => by kernel_rfl) ⟨Ev.c h0, Ev.c h1, Ev.c h2, trivial⟩
theorem L73_45 (x0 : S26) (x3 : Bool) (x4 : Bool) (x5 : Bool) (h0 : (x0.f3.toList == ByteArray.empty.toList) = true) (h1 : (x0.f4.toList == ByteArray.empty.toList) = false) : Does E 73 [.agg (S26.t x0), .one (tB false), .one (tB false), .one (tB x3), .one (tB x4), .one (tB x5)] [(false, [tB false])] :=
  Does.path (fn := Try.f73) [.b true, .b false] [fun _ => (x0.f3.toList == ByteArray.empty.toList) = true, fun _ => (x0.f4.toList == ByteArray.empty.toList) = false] rfl rfl (fun k => by kernel_rfl) ⟨Ev.c h0, Ev.c h1, trivial⟩
theorem L73_46 (x0 : S26) (x2 : Bool) (x3 : Bool) (x4 : Bool) (x5 : Bool) (h0 : (x0.f3.toList == ByteArray.empty.toList) = false) : Does E 73 [.agg (S26.t x0), .one (tB false), .one (tB x2), .one (tB x3), .one (tB x4), .one (tB x5)] [(false, [tB false])] :=
  Does.path (fn := Try.f73) [.b false] [fun _ => (x0.f3.toList == ByteArray.empty.toList) = false] rfl rfl (fun k => by kernel_rfl) ⟨Ev.c h0, trivial⟩
noncomputable def sem73 (x0 : S26) (x1 : Bool) (x2 : Bool) (x3 : Bool) (x4 : Bool) (x5 : Bool) : Option (Bool) :=
    match x1 with
      | true => match x2 with
        | true => match x3 with
          | true => match x4 with
            | true => match x5 with
              | true => some (true)
              | false => some (!x0.f7)
            | false => match x5 with
              | true => cond (x0.f6 == (0 : Int))
                (some (true))
                (some (false))
              | false => cond (x0.f6 == (0 : Int))
                (some (!x0.f7))
                (some (false))
          | false => match x4 with
            | true => match x5 with
              | true => cond (x0.f5 == (0 : Int))
                (some (true))
                (some (false))
              | false => cond (x0.f5 == (0 : Int))
                (some (!x0.f7))
                (some (false))
            | false => match x5 with
              | true => cond (x0.f5 == (0 : Int))
                (cond (x0.f6 == (0 : Int))
                  (some (true))
                  (some (false)))
                (some (false))
              | false => cond (x0.f5 == (0 : Int))
                (cond (x0.f6 == (0 : Int))
                  (some (!x0.f7))
                  (some (false)))
                (some (false))
        | false => match x3 with
          | true => match x4 with
            | true => match x5 with
              | true => cond (x0.f4.toList == ByteArray.empty.toList)
                (some (true))
                (some (false))
              | false => cond (x0.f4.toList == ByteArray.empty.toList)
                (some (!x0.f7))
                (some (false))
            | false => match x5 with
              | true => cond (x0.f4.toList == ByteArray.empty.toList)
                (cond (x0.f6 == (0 : Int))
                  (some (true))
                  (some (false)))
                (some (false))
              | false => cond (x0.f4.toList == ByteArray.empty.toList)
                (cond (x0.f6 == (0 : Int))
                  (some (!x0.f7))
                  (some (false)))
                (some (false))
          | false => match x4 with
            | true => match x5 with
              | true => cond (x0.f4.toList == ByteArray.empty.toList)
                (cond (x0.f5 == (0 : Int))
                  (some (true))
                  (some (false)))
                (some (false))
              | false => cond (x0.f4.toList == ByteArray.empty.toList)
                (cond (x0.f5 == (0 : Int))
                  (some (!x0.f7))
                  (some (false)))
                (some (false))
            | false => match x5 with
              | true => cond (x0.f4.toList == ByteArray.empty.toList)
                (cond (x0.f5 == (0 : Int))
                  (cond (x0.f6 == (0 : Int))
                    (some (true))
                    (some (false)))
                  (some (false)))
                (some (false))
              | false => cond (x0.f4.toList == ByteArray.empty.toList)
                (cond (x0.f5 == (0 : Int))
                  (cond (x0.f6 == (0 : Int))
                    (some (!x0.f7))
                    (some (false)))
                  (some (false)))
                (some (false))
      | false => match x2 with
        | true => match x3 with
          | true => match x4 with
            | true => match x5 with
              | true => cond (x0.f3.toList == ByteArray.empty.toList)
                (some (true))
                (some (false))
              | false => cond (x0.f3.toList == ByteArray.empty.toList)
                (some (!x0.f7))
                (some (false))
            | false => match x5 with
              | true => cond (x0.f3.toList == ByteArray.empty.toList)
                (cond (x0.f6 == (0 : Int))
                  (some (true))
                  (some (false)))
                (some (false))
              | false => cond (x0.f3.toList == ByteArray.empty.toList)
                (cond (x0.f6 == (0 : Int))
                  (some (!x0.f7))
                  (some (false)))
                (some (false))
          | false => match x4 with
            | true => match x5 with
              | true => cond (x0.f3.toList == ByteArray.empty.toList)
                (cond (x0.f5 == (0 : Int))
                  (some (true))
                  (some (false)))
                (some (false))
              | false => cond (x0.f3.toList == ByteArray.empty.toList)
                (cond (x0.f5 == (0 : Int))
                  (some (!x0.f7))
                  (some (false)))
                (some (false))
            | false => match x5 with
              | true => cond (x0.f3.toList == ByteArray.empty.toList)
                (cond (x0.f5 == (0 : Int))
                  (cond (x0.f6 == (0 : Int))
                    (some (true))
                    (some (false)))
                  (some (false)))
                (some (false))
              | false => cond (x0.f3.toList == ByteArray.empty.toList)
                (cond (x0.f5 == (0 : Int))
                  (cond (x0.f6 == (0 : Int))
                    (some (!x0.f7))
                    (some (false)))
                  (some (false)))
                (some (false))
        | false => match x3 with
          | true => match x4 with
            | true => match x5 with
              | true => cond (x0.f3.toList == ByteArray.empty.toList)
                (cond (x0.f4.toList == ByteArray.empty.toList)
                  (some (true))
                  (some (false)))
                (some (false))
              | false => cond (x0.f3.toList == ByteArray.empty.toList)
                (cond (x0.f4.toList == ByteArray.empty.toList)
                  (some (!x0.f7))
                  (some (false)))
                (some (false))
            | false => match x5 with
              | true => cond (x0.f3.toList == ByteArray.empty.toList)
                (cond (x0.f4.toList == ByteArray.empty.toList)
                  (cond (x0.f6 == (0 : Int))
                    (some (true))
                    (some (false)))
                  (some (false)))
                (some (false))
              | false => cond (x0.f3.toList == ByteArray.empty.toList)
                (cond (x0.f4.toList == ByteArray.empty.toList)
                  (cond (x0.f6 == (0 : Int))
                    (some (!x0.f7))
                    (some (false)))
                  (some (false)))
                (some (false))
          | false => match x4 with
            | true => match x5 with
              | true => cond (x0.f3.toList == ByteArray.empty.toList)
                (cond (x0.f4.toList == ByteArray.empty.toList)
                  (cond (x0.f5 == (0 : Int))
                    (some (true))
                    (some (false)))
                  (some (false)))
                (some (false))
              | false => cond (x0.f3.toList == ByteArray.empty.toList)
                (cond (x0.f4.toList == ByteArray.empty.toList)
                  (cond (x0.f5 == (0 : Int))
                    (some (!x0.f7))
                    (some (false)))
                  (some (false)))
                (some (false))
            | false => match x5 with
              | true => cond (x0.f3.toList == ByteArray.empty.toList)
                (cond (x0.f4.toList == ByteArray.empty.toList)
                  (cond (x0.f5 == (0 : Int))
                    (cond (x0.f6 == (0 : Int))
                      (some (true))
                      (some (false)))
                    (some (false)))
                  (some (false)))
                (some (false))
              | false => cond (x0.f3.toList == ByteArray.empty.toList)
                (cond (x0.f4.toList == ByteArray.empty.toList)
                  (cond (x0.f5 == (0 : Int))
                    (cond (x0.f6 == (0 : Int))
                      (some (!x0.f7))
                      (some (false)))
                    (some (false)))
                  (some (false)))
                (some (false))
theorem D73 (x0 : S26) (x1 : Bool) (x2 : Bool) (x3 : Bool) (x4 : Bool) (x5 : Bool) : Ans (sem73 x0 x1 x2 x3 x4 x5) (fun r => Does E 73 [.agg (S26.t x0), .one (tB x1), .one (tB x2), .one (tB x3), .one (tB x4), .one (tB x5)] [(false, [tB r])]) := by
  unfold sem73
  cases x1 with
  | true =>
    cases x2 with
    | true =>
      cases x3 with
      | true =>
        cases x4 with
        | true =>
          cases x5 with
          | true =>
            exact Ans.some (L73_0 x0)
          | false =>
            exact Ans.some (L73_1 x0)
        | false =>
          cases x5 with
          | true =>
            refine Ans.ite (fun h0 => ?_) (fun h0 => ?_)
            · exact Ans.some (L73_2 x0 h0)
            · exact Ans.some (L73_4 x0 true h0)
          | false =>
            refine Ans.ite (fun h0 => ?_) (fun h0 => ?_)
            · exact Ans.some (L73_3 x0 h0)
            · exact Ans.some (L73_4 x0 false h0)
      | false =>
        cases x4 with
        | true =>
          cases x5 with
          | true =>
            refine Ans.ite (fun h0 => ?_) (fun h0 => ?_)
            · exact Ans.some (L73_5 x0 h0)
            · exact Ans.some (L73_10 x0 true true h0)
          | false =>
            refine Ans.ite (fun h0 => ?_) (fun h0 => ?_)
            · exact Ans.some (L73_6 x0 h0)
            · exact Ans.some (L73_10 x0 true false h0)
        | false =>
          cases x5 with
          | true =>
            refine Ans.ite (fun h0 => ?_) (fun h0 => ?_)
            · refine Ans.ite (fun h1 => ?_) (fun h1 => ?_)
              · exact Ans.some (L73_7 x0 h0 h1)
              · exact Ans.some (L73_9 x0 true h0 h1)
            · exact Ans.some (L73_10 x0 false true h0)
          | false =>
            refine Ans.ite (fun h0 => ?_) (fun h0 => ?_)
            · refine Ans.ite (fun h1 => ?_) (fun h1 => ?_)
              · exact Ans.some (L73_8 x0 h0 h1)
              · exact Ans.some (L73_9 x0 false h0 h1)
            · exact Ans.some (L73_10 x0 false false h0)
    | false =>
      cases x3 with
      | true =>
        cases x4 with
        | true =>
          cases x5 with
          | true =>
            refine Ans.ite (fun h0 => ?_) (fun h0 => ?_)
            · exact Ans.some (L73_11 x0 h0)
            · exact Ans.some (L73_22 x0 true true true h0)
          | false =>
            refine Ans.ite (fun h0 => ?_) (fun h0 => ?_)
            · exact Ans.some (L73_12 x0 h0)
            · exact Ans.some (L73_22 x0 true true false h0)
        | false =>
          cases x5 with
          | true =>
            refine Ans.ite (fun h0 => ?_) (fun h0 => ?_)
            · refine Ans.ite (fun h1 => ?_) (fun h1 => ?_)
              · exact Ans.some (L73_13 x0 h0 h1)
              · exact Ans.some (L73_15 x0 true h0 h1)
            · exact Ans.some (L73_22 x0 true false true h0)
          | false =>
            refine Ans.ite (fun h0 => ?_) (fun h0 => ?_)
            · refine Ans.ite (fun h1 => ?_) (fun h1 => ?_)
              · exact Ans.some (L73_14 x0 h0 h1)
              · exact Ans.some (L73_15 x0 false h0 h1)
            · exact Ans.some (L73_22 x0 true false false h0)
      | false =>
        cases x4 with
        | true =>
          cases x5 with
          | true =>
            refine Ans.ite (fun h0 => ?_) (fun h0 => ?_)
            · refine Ans.ite (fun h1 => ?_) (fun h1 => ?_)
              · exact Ans.some (L73_16 x0 h0 h1)
              · exact Ans.some (L73_21 x0 true true h0 h1)
            · exact Ans.some (L73_22 x0 false true true h0)
          | false =>
            refine Ans.ite (fun h0 => ?_) (fun h0 => ?_)
            · refine Ans.ite (fun h1 => ?_) (fun h1 => ?_)
              · exact Ans.some (L73_17 x0 h0 h1)
              · exact Ans.some (L73_21 x0 true false h0 h1)
            · exact Ans.some (L73_22 x0 false true false h0)
        | false =>
          cases x5 with
          | true =>
            refine Ans.ite (fun h0 => ?_) (fun h0 => ?_)
            · refine Ans.ite (fun h1 => ?_) (fun h1 => ?_)
              · refine Ans.ite (fun h2 => ?_) (fun h2 => ?_)
                · exact Ans.some (L73_18 x0 h0 h1 h2)
                · exact Ans.some (L73_20 x0 true h0 h1 h2)
              · exact Ans.some (L73_21 x0 false true h0 h1)
            · exact Ans.some (L73_22 x0 false false true h0)
          | false =>
            refine Ans.ite (fun h0 => ?_) (fun h0 => ?_)
            · refine Ans.ite (fun h1 => ?_) (fun h1 => ?_)
              · refine Ans.ite (fun h2 => ?_) (fun h2 => ?_)
                · exact Ans.some (L73_19 x0 h0 h1 h2)
                · exact Ans.some (L73_20 x0 false h0 h1 h2)
              · exact Ans.some (L73_21 x0 false false h0 h1)
            · exact Ans.some (L73_22 x0 false false false h0)
  | false =>
    cases x2 with
    | true =>
      cases x3 with
      | true =>
        cases x4 with
        | true =>
          cases x5 with
          | true =>
            refine Ans.ite (fun h0 => ?_) (fun h0 => ?_)
            · exact Ans.some (L73_23 x0 h0)
            · exact Ans.some (L73_46 x0 true true true true h0)
          | false =>
            refine Ans.ite (fun h0 => ?_) (fun h0 => ?_)
            · exact Ans.some (L73_24 x0 h0)
            · exact Ans.some (L73_46 x0 true true true false h0)
        | false =>
          cases x5 with
          | true =>
            refine Ans.ite (fun h0 => ?_) (fun h0 => ?_)
            · refine Ans.ite (fun h1 => ?_) (fun h1 => ?_)
              · exact Ans.some (L73_25 x0 h0 h1)
              · exact Ans.some (L73_27 x0 true h0 h1)
            · exact Ans.some (L73_46 x0 true true false true h0)
          | false =>
            refine Ans.ite (fun h0 => ?_) (fun h0 => ?_)
            · refine Ans.ite (fun h1 => ?_) (fun h1 => ?_)
              · exact Ans.some (L73_26 x0 h0 h1)
              · exact Ans.some (L73_27 x0 false h0 h1)
            · exact Ans.some (L73_46 x0 true true false false h0)
      | false =>
        cases x4 with
        | true =>
          cases x5 with
          | true =>
            refine Ans.ite (fun h0 => ?_) (fun h0 => ?_)
            · refine Ans.ite (fun h1 => ?_) (fun h1 => ?_)
              · exact Ans.some (L73_28 x0 h0 h1)
              · exact Ans.some (L73_33 x0 true true h0 h1)
            · exact Ans.some (L73_46 x0 true false true true h0)
          | false =>
            refine Ans.ite (fun h0 => ?_) (fun h0 => ?_)
            · refine Ans.ite (fun h1 => ?_) (fun h1 => ?_)
              · exact Ans.some (L73_29 x0 h0 h1)
              · exact Ans.some (L73_33 x0 true false h0 h1)
            · exact Ans.some (L73_46 x0 true false true false h0)
        | false =>
          cases x5 with
          | true =>
            refine Ans.ite (fun h0 => ?_) (fun h0 => ?_)
            · refine Ans.ite (fun h1 => ?_) (fun h1 => ?_)
              · refine Ans.ite (fun h2 => ?_) (fun h2 => ?_)
                · exact Ans.some (L73_30 x0 h0 h1 h2)
                · exact Ans.some (L73_32 x0 true h0 h1 h2)
              · exact Ans.some (L73_33 x0 false true h0 h1)
            · exact Ans.some (L73_46 x0 true false false true h0)
          | false =>
            refine Ans.ite (fun h0 => ?_) (fun h0 => ?_)
            · refine Ans.ite (fun h1 => ?_) (fun h1 => ?_)
              · refine Ans.ite (fun h2 => ?_) (fun h2 => ?_)
                · exact Ans.some (L73_31 x0 h0 h1 h2)
                · exact Ans.some (L73_32 x0 false h0 h1 h2)
              · exact Ans.some (L73_33 x0 false false h0 h1)
            · exact Ans.some (L73_46 x0 true false false false h0)
    | false =>
      cases x3 with
      | true =>
        cases x4 with
        | true =>
          cases x5 with
          | true =>
            refine Ans.ite (fun h0 => ?_) (fun h0 => ?_)
            · refine Ans.ite (fun h1 => ?_) (fun h1 => ?_)
              · exact Ans.some (L73_34 x0 h0 h1)
              · exact Ans.some (L73_45 x0 true true true h0 h1)
            · exact Ans.some (L73_46 x0 false true true true h0)
          | false =>
            refine Ans.ite (fun h0 => ?_) (fun h0 => ?_)
            · refine Ans.ite (fun h1 => ?_) (fun h1 => ?_)
              · exact Ans.some (L73_35 x0 h0 h1)
              · exact Ans.some (L73_45 x0 true true false h0 h1)
            · exact Ans.some (L73_46 x0 false true true false h0)
        | false =>
          cases x5 with
          | true =>
            refine Ans.ite (fun h0 => ?_) (fun h0 => ?_)
            · refine Ans.ite (fun h1 => ?_) (fun h1 => ?_)
              · refine Ans.ite (fun h2 => ?_) (fun h2 => ?_)
                · exact Ans.some (L73_36 x0 h0 h1 h2)
                · exact Ans.some (L73_38 x0 true h0 h1 h2)
              · exact Ans.some (L73_45 x0 true false true h0 h1)
            · exact Ans.some (L73_46 x0 false true false true h0)
          | false =>
            refine Ans.ite (fun h0 => ?_) (fun h0 => ?_)
            · refine Ans.ite (fun h1 => ?_) (fun h1 => ?_)
              · refine Ans.ite (fun h2 => ?_) (fun h2 => ?_)
                · exact Ans.some (L73_37 x0 h0 h1 h2)
                · exact Ans.some (L73_38 x0 false h0 h1 h2)
              · exact Ans.some (L73_45 x0 true false false h0 h1)
            · exact Ans.some (L73_46 x0 false true false false h0)
      | false =>
        cases x4 with
        | true =>
          cases x5 with
          | true =>
            refine Ans.ite (fun h0 => ?_) (fun h0 => ?_)
            · refine Ans.ite (fun h1 => ?_) (fun h1 => ?_)
              · refine Ans.ite (fun h2 => ?_) (fun h2 => ?_)
                · exact Ans.some (L73_39 x0 h0 h1 h2)
                · exact Ans.some (L73_44 x0 true true h0 h1 h2)
              · exact Ans.some (L73_45 x0 false true true h0 h1)
            · exact Ans.some (L73_46 x0 false false true true h0)
          | false =>
            refine Ans.ite (fun h0 => ?_) (fun h0 => ?_)
            · refine Ans.ite (fun h1 => ?_) (fun h1 => ?_)
              · refine Ans.ite (fun h2 => ?_) (fun h2 => ?_)
                · exact Ans.some (L73_40 x0 h0 h1 h2)
                · exact Ans.some (L73_44 x0 true false h0 h1 h2)
              · exact Ans.some (L73_45 x0 false true false h0 h1)
            · exact Ans.some (L73_46 x0 false false true false h0)
        | false =>
          cases x5 with
          | true =>
            refine Ans.ite (fun h0 => ?_) (fun h0 => ?_)
            · refine Ans.ite (fun h1 => ?_) (fun h1 => ?_)
              · refine Ans.ite (fun h2 => ?_) (fun h2 => ?_)
                · refine Ans.ite (fun h3 => ?_) (fun h3 => ?_)
                  · exact Ans.some (L73_41 x0 h0 h1 h2 h3)
                  · exact Ans.some (L73_43 x0 true h0 h1 h2 h3)
                · exact Ans.some (L73_44 x0 false true h0 h1 h2)
              · exact Ans.some (L73_45 x0 false false true h0 h1)
            · exact Ans.some (L73_46 x0 false false false true h0)
          | false =>
            refine Ans.ite (fun h0 => ?_) (fun h0 => ?_)
            · refine Ans.ite (fun h1 => ?_) (fun h1 => ?_)
              · refine Ans.ite (fun h2 => ?_) (fun h2 => ?_)
                · refine Ans.ite (fun h3 => ?_) (fun h3 => ?_)
                  · exact Ans.some (L73_42 x0 h0 h1 h2 h3)
                  · exact Ans.some (L73_43 x0 false h0 h1 h2 h3)
                · exact Ans.some (L73_44 x0 false false h0 h1 h2)
              · exact Ans.some (L73_45 x0 false false false h0 h1)
            · exact Ans.some (L73_46 x0 false false false false h0)
theorem T73 (c : S26) (a b d e f : Bool) : Does E 73 [.agg (S26.t c), .one (tB a), .one (tB b), .one (tB d), .one (tB e), .one (tB f)] [(false, [tB (rest c a b d e f)])] :=
  D73 c a b d e f _ (by
    unfold sem73 rest
    cases a <;> cases b <;> cases d <;> cases e <;> cases f <;> simp only [Bool.true_or, Bool.false_or, Bool.true_and] <;>
      (generalize (c.f3.toList == ByteArray.empty.toList) = p; generalize (c.f4.toList == ByteArray.empty.toList) = q; generalize (c.f5 == 0) = r; generalize (c.f6 == 0) = s; generalize c.f7 = t
       cases p <;> cases q <;> cases r <;> cases s <;> cases t <;> rfl))
end Go.Proofs.Ytbphhigmepdohaa.Am
namespace Go.Proofs.Ytbphhigmepdohaa.Am
set_option linter.unusedVariables false
set_option linter.unusedSimpArgs false
open Go Go.Proofs Classical
set_option maxRecDepth 100000
set_option linter.unusedVariables false
/-- A letter, or a figure that is not the first. -/
def okAt (s : ByteArray) (i : Nat) : Bool :=
  (decide (bytAt s i ≥ 97) && decide (bytAt s i ≤ 122)) || (decide (0 < i) && (decide (bytAt s i ≥ 48) && decide (bytAt s i ≤ 57)))
def allFrom (s : ByteArray) (i : Nat) : Nat → Bool
  | 0 => true
  | d + 1 => okAt s i && allFrom s (i + 1) d
def nameOk (s : ByteArray) : Bool := inRange s.size 1 8 && allFrom s 0 s.size
-- function 20: loop.example/g00188/impl.NameOk
inductive X20_0 where
  | ret (v2 : Bool)
  | x0 
noncomputable def loop20_0 : Nat → ByteArray → Int → Option X20_0
  | 0, _, _ => none
  | n + 1, v0, v3 => cond (decide (v3 < (v0.size : Int)))
    (if 0 ≤ v3 ∧ v3 < (v0.size : Int) then cond (decide ((bytAt v0 v3) ≥ (97 : Int)))
      (cond (decide ((bytAt v0 v3) ≤ (122 : Int)))
        (loop20_0 n v0 (IntKind.wrap .i64 (v3 + (1 : Int))))
        (cond (v3 == (0 : Int))
          (some (.ret false))
          (cond (decide ((bytAt v0 v3) < (48 : Int)))
            (some (.ret false))
            (cond (decide ((bytAt v0 v3) > (57 : Int)))
              (some (.ret false))
              (loop20_0 n v0 (IntKind.wrap .i64 (v3 + (1 : Int))))))))
      (cond (v3 == (0 : Int))
        (some (.ret false))
        (cond (decide ((bytAt v0 v3) < (48 : Int)))
          (some (.ret false))
          (cond (decide ((bytAt v0 v3) > (57 : Int)))
            (some (.ret false))
            (loop20_0 n v0 (IntKind.wrap .i64 (v3 + (1 : Int))))))) else none)
    (some (.x0))
def Q20_0 (v0 : ByteArray) (v3 : Int) : X20_0 → Prop
  | .ret zv2 => Loops E 20 (lpAt Try.f20 0) (stL 42 [(0, .one (tS v0)), (3, .one (tI v3))]) .ret (stL 42 [(2, .one (tB zv2))])
  | .x0 => Loops E 20 (lpAt Try.f20 0) (stL 42 [(0, .one (tS v0)), (3, .one (tI v3))]) (.exit 0) (stL 42 [(0, .one (tS v0))])
theorem R20_0_0 (v0 : ByteArray) (v3 : Int) (h0 : (decide (v3 < (v0.size : Int))) = true) (h1 : 0 ≤ v3 ∧ v3 < (v0.size : Int)) (h2 : (decide ((bytAt v0 v3) ≥ (97 : Int))) = true) (h3 : (decide ((bytAt v0 v3) ≤ (122 : Int))) = true) : Round E 20 (lpAt Try.f20 0) (stL 42 [(0, .one (tS v0)), (3, .one (tI v3))]) .normal (stL 42 [(0, .one (tS v0)), (3, .one (tI (IntKind.wrap .i64 (v3 + (1 : Int)))))]) :=
  Round.path [.b true, .b true, .b true] [fun _ => (decide (v3 < (v0.size : Int))) = true, fun _ => 0 ≤ v3 ∧ v3 < (v0.size : Int), fun _ => (decide ((bytAt v0 v3) ≥ (97 : Int))) = true, fun _ => 0 ≤ v3 ∧ v3 < (v0.size : Int), fun _ => (decide ((bytAt v0 v3) ≤ (122 : Int))) = true] (fun k => by kernel_rfl) ⟨Ev.c h0, Ev.c h1, Ev.c h2, Ev.c h1, Ev.c h3, trivial⟩
theorem R20_0_1 (v0 : ByteArray) (v3 : Int) (h0 : (decide (v3 < (v0.size : Int))) = true) (h1 : 0 ≤ v3 ∧ v3 < (v0.size : Int)) (h2 : (decide ((bytAt v0 v3) ≥ (97 : Int))) = true) (h3 : (decide ((bytAt v0 v3) ≤ (122 : Int))) = false) (h4 : (v3 == (0 : Int)) = true) : Round E 20 (lpAt Try.f20 0) (stL 42 [(0, .one (tS v0)), (3, .one (tI v3))]) .ret (stL 42 [(2, .one (tB false))]) :=
  Round.path [.b true, .b true, .b false, .b true] [fun _ => (decide (v3 < (v0.size : Int))) = true, fun _ => 0 ≤ v3 ∧ v3 < (v0.size : Int), fun _ => (decide ((bytAt v0 v3) ≥ (97 : Int))) = true, fun _ => 0 ≤ v3 ∧ v3 < (v0.size : Int), fun _ => (decide ((bytAt v0 v3) ≤ (122 : Int))) = false, fun _ => (v3 == (0 : Int)) = true] (fun k => by kernel_rfl) ⟨Ev.c h0, Ev.c h1, Ev.c h2, Ev.c h1, Ev.c h3, Ev.c h4, trivial⟩
theorem R20_0_2 (v0 : ByteArray) (v3 : Int) (h0 : (decide (v3 < (v0.size : Int))) = true) (h1 : 0 ≤ v3 ∧ v3 < (v0.size : Int)) (h2 : (decide ((bytAt v0 v3) ≥ (97 : Int))) = true) (h3 : (decide ((bytAt v0 v3) ≤ (122 : Int))) = false) (h4 : (v3 == (0 : Int)) = false) (h5 : (decide ((bytAt v0 v3) < (48 : Int))) = true) : Round E 20 (lpAt Try.f20 0) (stL 42 [(0, .one (tS v0)), (3, .one (tI v3))]) .ret (stL 42 [(2, .one (tB false))]) :=
  Round.path [.b true, .b true, .b false, .b false, .b true] [fun _ => (decide (v3 < (v0.size : Int))) = true, fun _ => 0 ≤ v3 ∧ v3 < (v0.size : Int), fun _ => (decide ((bytAt v0 v3) ≥ (97 : Int))) = true, fun _ => 0 ≤ v3 ∧ v3 < (v0.size : Int), fun _ => (decide ((bytAt v0 v3) ≤ (122 : Int))) = false, fun _ => (v3 == (0 : Int)) = false, fun _ => 0 ≤ v3 ∧ v3 < (v0.size : Int), fun _ => (decide ((bytAt v0 v3) < (48 : Int))) = true] (fun k => by kernel_rfl) ⟨Ev.c h0, Ev.c h1, Ev.c h2, Ev.c h1, Ev.c h3, Ev.c h4, Ev.c h1, Ev.c h5, trivial⟩
theorem R20_0_3 (v0 : ByteArray) (v3 : Int) (h0 : (decide (v3 < (v0.size : Int))) = true) (h1 : 0 ≤ v3 ∧ v3 < (v0.size : Int)) (h2 : (decide ((bytAt v0 v3) ≥ (97 : Int))) = true) (h3 : (decide ((bytAt v0 v3) ≤ (122 : Int))) = false) (h4 : (v3 == (0 : Int)) = false) (h5 : (decide ((bytAt v0 v3) < (48 : Int))) = false) (h6 : (decide ((bytAt v0 v3) > (57 : Int))) = true) : Round E 20 (lpAt Try.f20 0) (stL 42 [(0, .one (tS v0)), (3, .one (tI v3))]) .ret (stL 42 [(2, .one (tB false))]) :=
  Round.path [.b true, .b true, .b false, .b false, .b false, .b true] [fun _ => (decide (v3 < (v0.size : Int))) = true, fun _ => 0 ≤ v3 ∧ v3 < (v0.size : Int), fun _ => (decide ((bytAt v0 v3) ≥ (97 : Int))) = true, fun _ => 0 ≤ v3 ∧ v3 < (v0.size : Int), fun _ => (decide ((bytAt v0 v3) ≤ (122 : Int))) = false, fun _ => (v3 == (0 : Int)) = false, fun _ => 0 ≤ v3 ∧ v3 < (v0.size : Int), fun _ => (decide ((bytAt v0 v3) < (48 : Int))) = false, fun _ => 0 ≤ v3 ∧ v3 < (v0.size : Int), fun _ => (decide ((bytAt v0 v3) > (57 : Int))) = true] (fun k => by kernel_rfl) ⟨Ev.c h0, Ev.c h1, Ev.c h2, Ev.c h1, Ev.c h3, Ev.c h4, Ev.c h1, Ev.c h5, Ev.c h1, Ev.c h6, trivial⟩
theorem R20_0_4 (v0 : ByteArray) (v3 : Int) (h0 : (decide (v3 < (v0.size : Int))) = true) (h1 : 0 ≤ v3 ∧ v3 < (v0.size : Int)) (h2 : (decide ((bytAt v0 v3) ≥ (97 : Int))) = true) (h3 : (decide ((bytAt v0 v3) ≤ (122 : Int))) = false) (h4 : (v3 == (0 : Int)) = false) (h5 : (decide ((bytAt v0 v3) < (48 : Int))) = false) (h6 : (decide ((bytAt v0 v3) > (57 : Int))) = false) : Round E 20 (lpAt Try.f20 0) (stL 42 [(0, .one (tS v0)), (3, .one (tI v3))]) .normal (stL 42 [(0, .one (tS v0)), (3, .one (tI (IntKind.wrap .i64 (v3 + (1 : Int)))))]) :=
  Round.path [.b true, .b true, .b false, .b false, .b false, .b false] [fun _ => (decide (v3 < (v0.size : Int))) = true, fun _ => 0 ≤ v3 ∧ v3 < (v0.size : Int), fun _ => (decide ((bytAt v0 v3) ≥ (97 : Int))) = true, fun _ => 0 ≤ v3 ∧ v3 < (v0.size : Int), fun _ => (decide ((bytAt v0 v3) ≤ (122 : Int))) = false, fun _ => (v3 == (0 : Int)) = false, fun _ => 0 ≤ v3 ∧ v3 < (v0.size : Int), fun _ => (decide ((bytAt v0 v3) < (48 : Int))) = false, fun _ => 0 ≤ v3 ∧ v3 < (v0.size : Int), fun _ => (decide ((bytAt v0 v3) > (57 : Int))) = false] (fun k => by kernel_rfl) ⟨Ev.c h0, Ev.c h1, Ev.c h2, Ev.c h1, Ev.c h3, Ev.c h4, Ev.c h1, Ev.c h5, Ev.c h1, Ev.c h6, trivial⟩
theorem R20_0_5 (v0 : ByteArray) (v3 : Int) (h0 : (decide (v3 < (v0.size : Int))) = true) (h1 : 0 ≤ v3 ∧ v3 < (v0.size : Int)) (h2 : (decide ((bytAt v0 v3) ≥ (97 : Int))) = false) (h3 : (v3 == (0 : Int)) = true) : Round E 20 (lpAt Try.f20 0) (stL 42 [(0, .one (tS v0)), (3, .one (tI v3))]) .ret (stL 42 [(2, .one (tB false))]) :=
  Round.path [.b true, .b false, .b true] [fun _ => (decide (v3 < (v0.size : Int))) = true, fun _ => 0 ≤ v3 ∧ v3 < (v0.size : Int), fun _ => (decide ((bytAt v0 v3) ≥ (97 : Int))) = false, fun _ => (v3 == (0 : Int)) = true] (fun k => by kernel_rfl) ⟨Ev.c h0, Ev.c h1, Ev.c h2, Ev.c h3, trivial⟩
theorem R20_0_6 (v0 : ByteArray) (v3 : Int) (h0 : (decide (v3 < (v0.size : Int))) = true) (h1 : 0 ≤ v3 ∧ v3 < (v0.size : Int)) (h2 : (decide ((bytAt v0 v3) ≥ (97 : Int))) = false) (h3 : (v3 == (0 : Int)) = false) (h4 : (decide ((bytAt v0 v3) < (48 : Int))) = true) : Round E 20 (lpAt Try.f20 0) (stL 42 [(0, .one (tS v0)), (3, .one (tI v3))]) .ret (stL 42 [(2, .one (tB false))]) :=
  Round.path [.b true, .b false, .b false, .b true] [fun _ => (decide (v3 < (v0.size : Int))) = true, fun _ => 0 ≤ v3 ∧ v3 < (v0.size : Int), fun _ => (decide ((bytAt v0 v3) ≥ (97 : Int))) = false, fun _ => (v3 == (0 : Int)) = false, fun _ => 0 ≤ v3 ∧ v3 < (v0.size : Int), fun _ => (decide ((bytAt v0 v3) < (48 : Int))) = true] (fun k => by kernel_rfl) ⟨Ev.c h0, Ev.c h1, Ev.c h2, Ev.c h3, Ev.c h1, Ev.c h4, trivial⟩
theorem R20_0_7 (v0 : ByteArray) (v3 : Int) (h0 : (decide (v3 < (v0.size : Int))) = true) (h1 : 0 ≤ v3 ∧ v3 < (v0.size : Int)) (h2 : (decide ((bytAt v0 v3) ≥ (97 : Int))) = false) (h3 : (v3 == (0 : Int)) = false) (h4 : (decide ((bytAt v0 v3) < (48 : Int))) = false) (h5 : (decide ((bytAt v0 v3) > (57 : Int))) = true) : Round E 20 (lpAt Try.f20 0) (stL 42 [(0, .one (tS v0)), (3, .one (tI v3))]) .ret (stL 42 [(2, .one (tB false))]) :=
  Round.path [.b true, .b false, .b false, .b false, .b true] [fun _ => (decide (v3 < (v0.size : Int))) = true, fun _ => 0 ≤ v3 ∧ v3 < (v0.size : Int), fun _ => (decide ((bytAt v0 v3) ≥ (97 : Int))) = false, fun _ => (v3 == (0 : Int)) = false, fun _ => 0 ≤ v3 ∧ v3 < (v0.size : Int), fun _ => (decide ((bytAt v0 v3) < (48 : Int))) = false, fun _ => 0 ≤ v3 ∧ v3 < (v0.size : Int), fun _ => (decide ((bytAt v0 v3) > (57 : Int))) = true] (fun k => by kernel_rfl) ⟨Ev.c h0, Ev.c h1, Ev.c h2, Ev.c h3, Ev.c h1, Ev.c h4, Ev.c h1, Ev.c h5, trivial⟩
theorem R20_0_8 (v0 : ByteArray) (v3 : Int) (h0 : (decide (v3 < (v0.size : Int))) = true) (h1 : 0 ≤ v3 ∧ v3 < (v0.size : Int)) (h2 : (decide ((bytAt v0 v3) ≥ (97 : Int))) = false) (h3 : (v3 == (0 : Int)) = false) (h4 : (decide ((bytAt v0 v3) < (48 : Int))) = false) (h5 : (decide ((bytAt v0 v3) > (57 : Int))) = false) : Round E 20 (lpAt Try.f20 0) (stL 42 [(0, .one (tS v0)), (3, .one (tI v3))]) .normal (stL 42 [(0, .one (tS v0)), (3, .one (tI (IntKind.wrap .i64 (v3 + (1 : Int)))))]) :=
  Round.path [.b true, .b false, .b false, .b false, .b false] [fun _ => (decide (v3 < (v0.size : Int))) = true, fun _ => 0 ≤ v3 ∧ v3 < (v0.size : Int), fun _ => (decide ((bytAt v0 v3) ≥ (97 : Int))) = false, fun _ => (v3 == (0 : Int)) = false, fun _ => 0 ≤ v3 ∧ v3 < (v0.size : Int), fun _ => (decide ((bytAt v0 v3) < (48 : Int))) = false, fun _ => 0 ≤ v3 ∧ v3 < (v0.size : Int), fun _ => (decide ((bytAt v0 v3) > (57 : Int))) = false] (fun k => by kernel_rfl) ⟨Ev.c h0, Ev.c h1, Ev.c h2, Ev.c h3, Ev.c h1, Ev.c h4, Ev.c h1, Ev.c h5, trivial⟩
theorem R20_0_9 (v0 : ByteArray) (v3 : Int) (h0 : (decide (v3 < (v0.size : Int))) = false) : Round E 20 (lpAt Try.f20 0) (stL 42 [(0, .one (tS v0)), (3, .one (tI v3))]) (.exit 0) (stL 42 [(0, .one (tS v0))]) :=
  Round.path [.b false] [fun _ => (decide (v3 < (v0.size : Int))) = false] (fun k => by kernel_rfl) ⟨Ev.c h0, trivial⟩
theorem L20_0 (n : Nat) : ∀ (v0 : ByteArray) (v3 : Int), Ans (loop20_0 n v0 v3) (Q20_0 v0 v3) := by
  induction n with
  | zero => intros; exact Ans.none
  | succ n ih =>
    intro v0 v3
    unfold loop20_0
    refine Ans.ite (fun h0 => ?_) (fun h0 => ?_)
    · refine Ans.pre (fun h1 => ?_)
      refine Ans.ite (fun h2 => ?_) (fun h2 => ?_)
      · refine Ans.ite (fun h3 => ?_) (fun h3 => ?_)
        · exact (ih v0 (IntKind.wrap .i64 (v3 + (1 : Int)))).mono fun y hy => by cases y <;> exact Loops.next (R20_0_0 v0 v3 h0 h1 h2 h3) hy
        · refine Ans.ite (fun h4 => ?_) (fun h4 => ?_)
          · exact Ans.some (Loops.stop (R20_0_1 v0 v3 h0 h1 h2 h3 h4) (by intro h; cases h))
          · refine Ans.ite (fun h5 => ?_) (fun h5 => ?_)
            · exact Ans.some (Loops.stop (R20_0_2 v0 v3 h0 h1 h2 h3 h4 h5) (by intro h; cases h))
            · refine Ans.ite (fun h6 => ?_) (fun h6 => ?_)
              · exact Ans.some (Loops.stop (R20_0_3 v0 v3 h0 h1 h2 h3 h4 h5 h6) (by intro h; cases h))
              · exact (ih v0 (IntKind.wrap .i64 (v3 + (1 : Int)))).mono fun y hy => by cases y <;> exact Loops.next (R20_0_4 v0 v3 h0 h1 h2 h3 h4 h5 h6) hy
      · refine Ans.ite (fun h3 => ?_) (fun h3 => ?_)
        · exact Ans.some (Loops.stop (R20_0_5 v0 v3 h0 h1 h2 h3) (by intro h; cases h))
        · refine Ans.ite (fun h4 => ?_) (fun h4 => ?_)
          · exact Ans.some (Loops.stop (R20_0_6 v0 v3 h0 h1 h2 h3 h4) (by intro h; cases h))
          · refine Ans.ite (fun h5 => ?_) (fun h5 => ?_)
            · exact Ans.some (Loops.stop (R20_0_7 v0 v3 h0 h1 h2 h3 h4 h5) (by intro h; cases h))
            · exact (ih v0 (IntKind.wrap .i64 (v3 + (1 : Int)))).mono fun y hy => by cases y <;> exact Loops.next (R20_0_8 v0 v3 h0 h1 h2 h3 h4 h5) hy
    · exact Ans.some (Loops.stop (R20_0_9 v0 v3 h0) (by intro h; cases h))
theorem P20_0 (x0 : ByteArray) (w0_2 : Bool) (h0 : Loops E 20 (lpAt Try.f20 0) (stL 42 [(0, .one (tS x0)), (3, .one (tI (0 : Int)))]) .ret (stL 42 [(2, .one (tB w0_2))])) : Does E 20 [.one (tS x0)] [(false, [tB w0_2])] :=
  Does.path (fn := Try.f20) [.lp .ret (stL 42 [(2, .one (tB w0_2))])] [fun k => LoopK E 20 (lpAt Try.f20 0) (stL 42 [(0, .one (tS x0)), (3, .one (tI (0 : Int)))]) .ret (stL 42 [(2, .one (tB w0_2))]) k k] rfl rfl (fun k => by kernel_rfl) ⟨Loops.ev h0, trivial⟩
theorem P20_1 (x0 : ByteArray) (h0 : Loops E 20 (lpAt Try.f20 0) (stL 42 [(0, .one (tS x0)), (3, .one (tI (0 : Int)))]) (.exit 0) (stL 42 [(0, .one (tS x0))])) : Does E 20 [.one (tS x0)] [(false, [tB (inRange (x0.size : Int) (1 : Int) (8 : Int))])] :=
  Does.path (fn := Try.f20) [.lp (.exit 0) (stL 42 [(0, .one (tS x0))]), .ret [(false, [tB (inRange (x0.size : Int) (1 : Int) (8 : Int))])]] [fun k => LoopK E 20 (lpAt Try.f20 0) (stL 42 [(0, .one (tS x0)), (3, .one (tI (0 : Int)))]) (.exit 0) (stL 42 [(0, .one (tS x0))]) k k, fun k => E.C k 72 [.one (tI (x0.size : Int)), .one (tI (1 : Int)), .one (tI (8 : Int))] = some [(false, [tB (inRange (x0.size : Int) (1 : Int) (8 : Int))])]] rfl rfl (fun k => by kernel_rfl) ⟨Loops.ev h0, T72 (x0.size : Int) (1 : Int) (8 : Int), trivial⟩
noncomputable def sem20 (n : Nat) (x0 : ByteArray) : Option (Bool) :=
    (loop20_0 n x0 (0 : Int)).bind fun y => match y with
      | .ret w0_2 => (some (w0_2))
      | .x0 => (some (inRange (x0.size : Int) (1 : Int) (8 : Int)))
theorem D20 (n : Nat) (x0 : ByteArray) : Ans (sem20 n x0) (fun r => Does E 20 [.one (tS x0)] [(false, [tB r])]) := by
  unfold sem20
  refine Ans.bind (fun y hy => ?_)
  replace hy := L20_0 n x0 (0 : Int) y hy
  cases y with
  | ret w0_2 =>
    have h0 := hy
    exact Ans.some (P20_0 x0 w0_2 h0)
  | x0 =>
    have h0 := hy
    exact Ans.some (P20_1 x0 h0)
-- function 19: loop.example/g00188/spec.NameOk
inductive X19_0 where
  | ret (v2 : Bool)
  | x0 
noncomputable def loop19_0 : Nat → ByteArray → Int → Option X19_0
  | 0, _, _ => none
  | n + 1, v0, v3 => cond (decide (v3 < (v0.size : Int)))
    (if 0 ≤ v3 ∧ v3 < (v0.size : Int) then cond (decide ((bytAt v0 v3) < (97 : Int)))
      (cond (decide ((bytAt v0 v3) < (48 : Int)))
        (some (.ret false))
        (cond (decide ((bytAt v0 v3) > (57 : Int)))
          (some (.ret false))
          (loop19_0 n v0 (IntKind.wrap .i64 (v3 + (1 : Int))))))
      (cond (decide ((bytAt v0 v3) > (122 : Int)))
        (cond (decide ((bytAt v0 v3) < (48 : Int)))
          (some (.ret false))
          (cond (decide ((bytAt v0 v3) > (57 : Int)))
            (some (.ret false))
            (loop19_0 n v0 (IntKind.wrap .i64 (v3 + (1 : Int))))))
        (loop19_0 n v0 (IntKind.wrap .i64 (v3 + (1 : Int))))) else none)
    (some (.x0))
def Q19_0 (v0 : ByteArray) (v3 : Int) : X19_0 → Prop
  | .ret zv2 => Loops E 19 (lpAt Try.f19 0) (stL 46 [(0, .one (tS v0)), (3, .one (tI v3))]) .ret (stL 46 [(2, .one (tB zv2))])
  | .x0 => Loops E 19 (lpAt Try.f19 0) (stL 46 [(0, .one (tS v0)), (3, .one (tI v3))]) (.exit 0) (stL 46 [])
theorem R19_0_0 (v0 : ByteArray) (v3 : Int) (h0 : (decide (v3 < (v0.size : Int))) = true) (h1 : 0 ≤ v3 ∧ v3 < (v0.size : Int)) (h2 : (decide ((bytAt v0 v3) < (97 : Int))) = true) (h3 : (decide ((bytAt v0 v3) < (48 : Int))) = true) : Round E 19 (lpAt Try.f19 0) (stL 46 [(0, .one (tS v0)), (3, .one (tI v3))]) .ret (stL 46 [(2, .one (tB false))]) :=
  Round.path [.b true, .b true, .b true] [fun _ => (decide (v3 < (v0.size : Int))) = true, fun _ => 0 ≤ v3 ∧ v3 < (v0.size : Int), fun _ => (decide ((bytAt v0 v3) < (97 : Int))) = true, fun _ => 0 ≤ v3 ∧ v3 < (v0.size : Int), fun _ => (decide ((bytAt v0 v3) < (48 : Int))) = true] (fun k => by kernel_rfl) ⟨Ev.c h0, Ev.c h1, Ev.c h2, Ev.c h1, Ev.c h3, trivial⟩
theorem R19_0_1 (v0 : ByteArray) (v3 : Int) (h0 : (decide (v3 < (v0.size : Int))) = true) (h1 : 0 ≤ v3 ∧ v3 < (v0.size : Int)) (h2 : (decide ((bytAt v0 v3) < (97 : Int))) = true) (h3 : (decide ((bytAt v0 v3) < (48 : Int))) = false) (h4 : (decide ((bytAt v0 v3) > (57 : Int))) = true) : Round E 19 (lpAt Try.f19 0) (stL 46 [(0, .one (tS v0)), (3, .one (tI v3))]) .ret (stL 46 [(2, .one (tB false))]) :=
  Round.path [.b true, .b true, .b false, .b true] [fun _ => (decide (v3 < (v0.size : Int))) = true, fun _ => 0 ≤ v3 ∧ v3 < (v0.size : Int), fun _ => (decide ((bytAt v0 v3) < (97 : Int))) = true, fun _ => 0 ≤ v3 ∧ v3 < (v0.size : Int), fun _ => (decide ((bytAt v0 v3) < (48 : Int))) = false, fun _ => 0 ≤ v3 ∧ v3 < (v0.size : Int), fun _ => (decide ((bytAt v0 v3) > (57 : Int))) = true] (fun k => by kernel_rfl) ⟨Ev.c h0, Ev.c h1, Ev.c h2, Ev.c h1, Ev.c h3, Ev.c h1, Ev.c h4, trivial⟩
theorem R19_0_2 (v0 : ByteArray) (v3 : Int) (h0 : (decide (v3 < (v0.size : Int))) = true) (h1 : 0 ≤ v3 ∧ v3 < (v0.size : Int)) (h2 : (decide ((bytAt v0 v3) < (97 : Int))) = true) (h3 : (decide ((bytAt v0 v3) < (48 : Int))) = false) (h4 : (decide ((bytAt v0 v3) > (57 : Int))) = false) : Round E 19 (lpAt Try.f19 0) (stL 46 [(0, .one (tS v0)), (3, .one (tI v3))]) .normal (stL 46 [(0, .one (tS v0)), (3, .one (tI (IntKind.wrap .i64 (v3 + (1 : Int)))))]) :=
  Round.path [.b true, .b true, .b false, .b false] [fun _ => (decide (v3 < (v0.size : Int))) = true, fun _ => 0 ≤ v3 ∧ v3 < (v0.size : Int), fun _ => (decide ((bytAt v0 v3) < (97 : Int))) = true, fun _ => 0 ≤ v3 ∧ v3 < (v0.size : Int), fun _ => (decide ((bytAt v0 v3) < (48 : Int))) = false, fun _ => 0 ≤ v3 ∧ v3 < (v0.size : Int), fun _ => (decide ((bytAt v0 v3) > (57 : Int))) = false] (fun k => by kernel_rfl) ⟨Ev.c h0, Ev.c h1, Ev.c h2, Ev.c h1, Ev.c h3, Ev.c h1, Ev.c h4, trivial⟩
theorem R19_0_3 (v0 : ByteArray) (v3 : Int) (h0 : (decide (v3 < (v0.size : Int))) = true) (h1 : 0 ≤ v3 ∧ v3 < (v0.size : Int)) (h2 : (decide ((bytAt v0 v3) < (97 : Int))) = false) (h3 : (decide ((bytAt v0 v3) > (122 : Int))) = true) (h4 : (decide ((bytAt v0 v3) < (48 : Int))) = true) : Round E 19 (lpAt Try.f19 0) (stL 46 [(0, .one (tS v0)), (3, .one (tI v3))]) .ret (stL 46 [(2, .one (tB false))]) :=
  Round.path [.b true, .b false, .b true, .b true] [fun _ => (decide (v3 < (v0.size : Int))) = true, fun _ => 0 ≤ v3 ∧ v3 < (v0.size : Int), fun _ => (decide ((bytAt v0 v3) < (97 : Int))) = false, fun _ => 0 ≤ v3 ∧ v3 < (v0.size : Int), fun _ => (decide ((bytAt v0 v3) > (122 : Int))) = true, fun _ => 0 ≤ v3 ∧ v3 < (v0.size : Int), fun _ => (decide ((bytAt v0 v3) < (48 : Int))) = true] (fun k => by kernel_rfl) ⟨Ev.c h0, Ev.c h1, Ev.c h2, Ev.c h1, Ev.c h3, Ev.c h1, Ev.c h4, trivial⟩
theorem R19_0_4 (v0 : ByteArray) (v3 : Int) (h0 : (decide (v3 < (v0.size : Int))) = true) (h1 : 0 ≤ v3 ∧ v3 < (v0.size : Int)) (h2 : (decide ((bytAt v0 v3) < (97 : Int))) = false) (h3 : (decide ((bytAt v0 v3) > (122 : Int))) = true) (h4 : (decide ((bytAt v0 v3) < (48 : Int))) = false) (h5 : (decide ((bytAt v0 v3) > (57 : Int))) = true) : Round E 19 (lpAt Try.f19 0) (stL 46 [(0, .one (tS v0)), (3, .one (tI v3))]) .ret (stL 46 [(2, .one (tB false))]) :=
  Round.path [.b true, .b false, .b true, .b false, .b true] [fun _ => (decide (v3 < (v0.size : Int))) = true, fun _ => 0 ≤ v3 ∧ v3 < (v0.size : Int), fun _ => (decide ((bytAt v0 v3) < (97 : Int))) = false, fun _ => 0 ≤ v3 ∧ v3 < (v0.size : Int), fun _ => (decide ((bytAt v0 v3) > (122 : Int))) = true, fun _ => 0 ≤ v3 ∧ v3 < (v0.size : Int), fun _ => (decide ((bytAt v0 v3) < (48 : Int))) = false, fun _ => 0 ≤ v3 ∧ v3 < (v0.size : Int), fun _ => (decide ((bytAt v0 v3) > (57 : Int))) = true] (fun k => by kernel_rfl) ⟨Ev.c h0, Ev.c h1, Ev.c h2, Ev.c h1, Ev.c h3, Ev.c h1, Ev.c h4, Ev.c h1, Ev.c h5, trivial⟩
theorem R19_0_5 (v0 : ByteArray) (v3 : Int) (h0 : (decide (v3 < (v0.size : Int))) = true) (h1 : 0 ≤ v3 ∧ v3 < (v0.size : Int)) (h2 : (decide ((bytAt v0 v3) < (97 : Int))) = false) (h3 : (decide ((bytAt v0 v3) > (122 : Int))) = true) (h4 : (decide ((bytAt v0 v3) < (48 : Int))) = false) (h5 : (decide ((bytAt v0 v3) > (57 : Int))) = false) : Round E 19 (lpAt Try.f19 0) (stL 46 [(0, .one (tS v0)), (3, .one (tI v3))]) .normal (stL 46 [(0, .one (tS v0)), (3, .one (tI (IntKind.wrap .i64 (v3 + (1 : Int)))))]) :=
  Round.path [.b true, .b false, .b true, .b false, .b false] [fun _ => (decide (v3 < (v0.size : Int))) = true, fun _ => 0 ≤ v3 ∧ v3 < (v0.size : Int), fun _ => (decide ((bytAt v0 v3) < (97 : Int))) = false, fun _ => 0 ≤ v3 ∧ v3 < (v0.size : Int), fun _ => (decide ((bytAt v0 v3) > (122 : Int))) = true, fun _ => 0 ≤ v3 ∧ v3 < (v0.size : Int), fun _ => (decide ((bytAt v0 v3) < (48 : Int))) = false, fun _ => 0 ≤ v3 ∧ v3 < (v0.size : Int), fun _ => (decide ((bytAt v0 v3) > (57 : Int))) = false] (fun k => by kernel_rfl) ⟨Ev.c h0, Ev.c h1, Ev.c h2, Ev.c h1, Ev.c h3, Ev.c h1, Ev.c h4, Ev.c h1, Ev.c h5, trivial⟩
theorem R19_0_6 (v0 : ByteArray) (v3 : Int) (h0 : (decide (v3 < (v0.size : Int))) = true) (h1 : 0 ≤ v3 ∧ v3 < (v0.size : Int)) (h2 : (decide ((bytAt v0 v3) < (97 : Int))) = false) (h3 : (decide ((bytAt v0 v3) > (122 : Int))) = false) : Round E 19 (lpAt Try.f19 0) (stL 46 [(0, .one (tS v0)), (3, .one (tI v3))]) .normal (stL 46 [(0, .one (tS v0)), (3, .one (tI (IntKind.wrap .i64 (v3 + (1 : Int)))))]) :=
  Round.path [.b true, .b false, .b false] [fun _ => (decide (v3 < (v0.size : Int))) = true, fun _ => 0 ≤ v3 ∧ v3 < (v0.size : Int), fun _ => (decide ((bytAt v0 v3) < (97 : Int))) = false, fun _ => 0 ≤ v3 ∧ v3 < (v0.size : Int), fun _ => (decide ((bytAt v0 v3) > (122 : Int))) = false] (fun k => by kernel_rfl) ⟨Ev.c h0, Ev.c h1, Ev.c h2, Ev.c h1, Ev.c h3, trivial⟩
theorem R19_0_7 (v0 : ByteArray) (v3 : Int) (h0 : (decide (v3 < (v0.size : Int))) = false) : Round E 19 (lpAt Try.f19 0) (stL 46 [(0, .one (tS v0)), (3, .one (tI v3))]) (.exit 0) (stL 46 []) :=
  Round.path [.b false] [fun _ => (decide (v3 < (v0.size : Int))) = false] (fun k => by kernel_rfl) ⟨Ev.c h0, trivial⟩
theorem L19_0 (n : Nat) : ∀ (v0 : ByteArray) (v3 : Int), Ans (loop19_0 n v0 v3) (Q19_0 v0 v3) := by
  induction n with
  | zero => intros; exact Ans.none
  | succ n ih =>
    intro v0 v3
    unfold loop19_0
    refine Ans.ite (fun h0 => ?_) (fun h0 => ?_)
    · refine Ans.pre (fun h1 => ?_)
      refine Ans.ite (fun h2 => ?_) (fun h2 => ?_)
      · refine Ans.ite (fun h3 => ?_) (fun h3 => ?_)
        · exact Ans.some (Loops.stop (R19_0_0 v0 v3 h0 h1 h2 h3) (by intro h; cases h))
        · refine Ans.ite (fun h4 => ?_) (fun h4 => ?_)
          · exact Ans.some (Loops.stop (R19_0_1 v0 v3 h0 h1 h2 h3 h4) (by intro h; cases h))
          · exact (ih v0 (IntKind.wrap .i64 (v3 + (1 : Int)))).mono fun y hy => by cases y <;> exact Loops.next (R19_0_2 v0 v3 h0 h1 h2 h3 h4) hy
      · refine Ans.ite (fun h3 => ?_) (fun h3 => ?_)
        · refine Ans.ite (fun h4 => ?_) (fun h4 => ?_)
          · exact Ans.some (Loops.stop (R19_0_3 v0 v3 h0 h1 h2 h3 h4) (by intro h; cases h))
          · refine Ans.ite (fun h5 => ?_) (fun h5 => ?_)
            · exact Ans.some (Loops.stop (R19_0_4 v0 v3 h0 h1 h2 h3 h4 h5) (by intro h; cases h))
            · exact (ih v0 (IntKind.wrap .i64 (v3 + (1 : Int)))).mono fun y hy => by cases y <;> exact Loops.next (R19_0_5 v0 v3 h0 h1 h2 h3 h4 h5) hy
        · exact (ih v0 (IntKind.wrap .i64 (v3 + (1 : Int)))).mono fun y hy => by cases y <;> exact Loops.next (R19_0_6 v0 v3 h0 h1 h2 h3) hy
    · exact Ans.some (Loops.stop (R19_0_7 v0 v3 h0) (by intro h; cases h))
theorem P19_0 (x0 : ByteArray) (h0 : (inRange (x0.size : Int) (1 : Int) (8 : Int)) = true) (h1 : 0 ≤ (0 : Int) ∧ (0 : Int) < (x0.size : Int)) (h2 : (decide ((bytAt x0 (0 : Int)) < (97 : Int))) = true) : Does E 19 [.one (tS x0)] [(false, [tB false])] :=
  Does.path (fn := Try.f19) [.ret [(false, [tB true])], .b true] [fun k => E.C k 71 [.one (tI (x0.size : Int)), .one (tI (1 : Int)), .one (tI (8 : Int))] = some [(false, [tB true])], fun _ => 0 ≤ (0 : Int) ∧ (0 : Int) < (x0.size : Int), fun _ => (decide ((bytAt x0 (0 : Int)) < (97 : Int))) = true] rfl rfl (fun k => by kernel_rfl) ⟨Does.to (T71 (x0.size : Int) (1 : Int) (8 : Int)) (by rw [h0]), Ev.c h1, Ev.c h2, trivial⟩
theorem P19_1 (x0 : ByteArray) (h0 : (inRange (x0.size : Int) (1 : Int) (8 : Int)) = true) (h1 : 0 ≤ (0 : Int) ∧ (0 : Int) < (x0.size : Int)) (h2 : (decide ((bytAt x0 (0 : Int)) < (97 : Int))) = false) (h3 : (decide ((bytAt x0 (0 : Int)) > (122 : Int))) = true) : Does E 19 [.one (tS x0)] [(false, [tB false])] :=
  Does.path (fn := Try.f19) [.ret [(false, [tB true])], .b false, .b true] [fun k => E.C k 71 [.one (tI (x0.size : Int)), .one (tI (1 : Int)), .one (tI (8 : Int))] = some [(false, [tB true])], fun _ => 0 ≤ (0 : Int) ∧ (0 : Int) < (x0.size : Int), fun _ => (decide ((bytAt x0 (0 : Int)) < (97 : Int))) = false, fun _ => 0 ≤ (0 : Int) ∧ (0 : Int) < (x0.size : Int), fun _ => (decide ((bytAt x0 (0 : Int)) > (122 : Int))) = true] rfl rfl (fun k => by kernel_rfl) ⟨Does.to (T71 (x0.size : Int) (1 : Int) (8 : Int)) (by rw [h0]), Ev.c h1, Ev.c h2, Ev.c h1, Ev.c h3, trivial⟩
theorem P19_2 (x0 : ByteArray) (w0_2 : Bool) (h0 : (inRange (x0.size : Int) (1 : Int) (8 : Int)) = true) (h1 : 0 ≤ (0 : Int) ∧ (0 : Int) < (x0.size : Int)) (h2 : (decide ((bytAt x0 (0 : Int)) < (97 : Int))) = false) (h3 : (decide ((bytAt x0 (0 : Int)) > (122 : Int))) = false) (h4 : Loops E 19 (lpAt Try.f19 0) (stL 46 [(0, .one (tS x0)), (3, .one (tI (0 : Int)))]) .ret (stL 46 [(2, .one (tB w0_2))])) : Does E 19 [.one (tS x0)] [(false, [tB w0_2])] :=
  Does.path (fn := Try.f19) [.ret [(false, [tB true])], .b false, .b false, .lp .ret (stL 46 [(2, .one (tB w0_2))])] [fun k => E.C k 71 [.one (tI (x0.size : Int)), .one (tI (1 : Int)), .one (tI (8 : Int))] = some [(false, [tB true])], fun _ => 0 ≤ (0 : Int) ∧ (0 : Int) < (x0.size : Int), fun _ => (decide ((bytAt x0 (0 : Int)) < (97 : Int))) = false, fun _ => 0 ≤ (0 : Int) ∧ (0 : Int) < (x0.size : Int), fun _ => (decide ((bytAt x0 (0 : Int)) > (122 : Int))) = false, fun k => LoopK E 19 (lpAt Try.f19 0) (stL 46 [(0, .one (tS x0)), (3, .one (tI (0 : Int)))]) .ret (stL 46 [(2, .one (tB w0_2))]) k k] rfl rfl (fun k => by kernel_rfl) ⟨Does.to (T71 (x0.size : Int) (1 : Int) (8 : Int)) (by rw [h0]), Ev.c h1, Ev.c h2, Ev.c h1, Ev.c h3, Loops.ev h4, trivial⟩
theorem P19_3 (x0 : ByteArray) (h0 : (inRange (x0.size : Int) (1 : Int) (8 : Int)) = true) (h1 : 0 ≤ (0 : Int) ∧ (0 : Int) < (x0.size : Int)) (h2 : (decide ((bytAt x0 (0 : Int)) < (97 : Int))) = false) (h3 : (decide ((bytAt x0 (0 : Int)) > (122 : Int))) = false) (h4 : Loops E 19 (lpAt Try.f19 0) (stL 46 [(0, .one (tS x0)), (3, .one (tI (0 : Int)))]) (.exit 0) (stL 46 [])) : Does E 19 [.one (tS x0)] [(false, [tB true])] :=
  Does.path (fn := Try.f19) [.ret [(false, [tB true])], .b false, .b false, .lp (.exit 0) (stL 46 [])] [fun k => E.C k 71 [.one (tI (x0.size : Int)), .one (tI (1 : Int)), .one (tI (8 : Int))] = some [(false, [tB true])], fun _ => 0 ≤ (0 : Int) ∧ (0 : Int) < (x0.size : Int), fun _ => (decide ((bytAt x0 (0 : Int)) < (97 : Int))) = false, fun _ => 0 ≤ (0 : Int) ∧ (0 : Int) < (x0.size : Int), fun _ => (decide ((bytAt x0 (0 : Int)) > (122 : Int))) = false, fun k => LoopK E 19 (lpAt Try.f19 0) (stL 46 [(0, .one (tS x0)), (3, .one (tI (0 : Int)))]) (.exit 0) (stL 46 []) k k] rfl rfl (fun k => by kernel_rfl) ⟨Does.to (T71 (x0.size : Int) (1 : Int) (8 : Int)) (by rw [h0]), Ev.c h1, Ev.c h2, Ev.c h1, Ev.c h3, Loops.ev h4, trivial⟩
theorem P19_4 (x0 : ByteArray) (h0 : (inRange (x0.size : Int) (1 : Int) (8 : Int)) = false) : Does E 19 [.one (tS x0)] [(false, [tB false])] :=
  Does.path (fn := Try.f19) [.ret [(false, [tB false])]] [fun k => E.C k 71 [.one (tI (x0.size : Int)), .one (tI (1 : Int)), .one (tI (8 : Int))] = some [(false, [tB false])]] rfl rfl (fun k => by kernel_rfl) ⟨Does.to (T71 (x0.size : Int) (1 : Int) (8 : Int)) (by rw [h0]), trivial⟩
noncomputable def sem19 (n : Nat) (x0 : ByteArray) : Option (Bool) :=
    cond (inRange (x0.size : Int) (1 : Int) (8 : Int))
      (if 0 ≤ (0 : Int) ∧ (0 : Int) < (x0.size : Int) then cond (decide ((bytAt x0 (0 : Int)) < (97 : Int)))
        (some (false))
        (cond (decide ((bytAt x0 (0 : Int)) > (122 : Int)))
          (some (false))
          ((loop19_0 n x0 (0 : Int)).bind fun y => match y with
            | .ret w0_2 => (some (w0_2))
            | .x0 => (some (true)))) else none)
      (some (false))
theorem D19 (n : Nat) (x0 : ByteArray) : Ans (sem19 n x0) (fun r => Does E 19 [.one (tS x0)] [(false, [tB r])]) := by
  unfold sem19
  refine Ans.ite (fun h0 => ?_) (fun h0 => ?_)
  · refine Ans.pre (fun h1 => ?_)
    refine Ans.ite (fun h2 => ?_) (fun h2 => ?_)
    · exact Ans.some (P19_0 x0 h0 h1 h2)
    · refine Ans.ite (fun h3 => ?_) (fun h3 => ?_)
      · exact Ans.some (P19_1 x0 h0 h1 h2 h3)
      · refine Ans.bind (fun y hy => ?_)
        replace hy := L19_0 n x0 (0 : Int) y hy
        cases y with
        | ret w0_2 =>
          have h4 := hy
          exact Ans.some (P19_2 x0 w0_2 h0 h1 h2 h3 h4)
        | x0 =>
          have h4 := hy
          exact Ans.some (P19_3 x0 h0 h1 h2 h3 h4)
  · exact Ans.some (P19_4 x0 h0)
theorem wrap1 (i : Nat) (h : i < 4611686018427387904) : IntKind.wrap .i64 ((i : Int) + 1) = ((i + 1 : Nat) : Int) := by
  simp only [IntKind.wrap, IntKind.bits, IntKind.signed]
  simp
  omega
theorem dlt (a b : Int) : decide (a < b) = !decide (a ≥ b) := by by_cases h : a < b <;> simp [h] <;> omega
theorem dgt (a b : Int) : decide (a > b) = !decide (a ≤ b) := by by_cases h : a > b <;> simp [h] <;> omega
theorem eq0 (i : Nat) : ((i : Int) == 0) = !decide (0 < i) := by
  cases i with
  | zero => rfl
  | succ i => simp; omega
theorem loop20_ok (s : ByteArray) (hs : s.size < 4611686018427387904) : ∀ (d i n : Nat), i + d = s.size → d < n → loop20_0 n s i = some (cond (allFrom s i d) .x0 (.ret false))
  | 0, i, n, hi, hn => by
    obtain ⟨n, rfl⟩ : ∃ m, n = m + 1 := ⟨n - 1, by omega⟩
    simp only [loop20_0, allFrom]
    rw [show decide ((i : Int) < (s.size : Int)) = false by simp; omega]
    rfl
  | d + 1, i, n, hi, hn => by
    obtain ⟨n, rfl⟩ : ∃ m, n = m + 1 := ⟨n - 1, by omega⟩
    have ih := loop20_ok s hs d (i + 1) n (by omega) (by omega)
    simp only [loop20_0, allFrom, okAt]
    rw [show decide ((i : Int) < (s.size : Int)) = true by simp; omega, if_pos ⟨by omega, by omega⟩, wrap1 i (by omega), ih, dlt, dgt, eq0]
    generalize decide (bytAt s i ≥ 97) = p1; generalize decide (bytAt s i ≤ 122) = p2; generalize decide (bytAt s i ≥ 48) = p3; generalize decide (bytAt s i ≤ 57) = p4
    generalize decide (0 < i) = p5; generalize allFrom s (i + 1) d = p6
    cases p1 <;> cases p2 <;> cases p3 <;> cases p4 <;> cases p5 <;> cases p6 <;> rfl
theorem loop19_ok (s : ByteArray) (hs : s.size < 4611686018427387904) : ∀ (d i n : Nat), 0 < i → i + d = s.size → d < n → loop19_0 n s i = some (cond (allFrom s i d) .x0 (.ret false))
  | 0, i, n, h0, hi, hn => by
    obtain ⟨n, rfl⟩ : ∃ m, n = m + 1 := ⟨n - 1, by omega⟩
    simp only [loop19_0, allFrom]
    rw [show decide ((i : Int) < (s.size : Int)) = false by simp; omega]
    rfl
  | d + 1, i, n, h0, hi, hn => by
    obtain ⟨n, rfl⟩ : ∃ m, n = m + 1 := ⟨n - 1, by omega⟩
    have ih := loop19_ok s hs d (i + 1) n (by omega) (by omega) (by omega)
    simp only [loop19_0, allFrom, okAt]
    rw [show decide ((i : Int) < (s.size : Int)) = true by simp; omega, if_pos ⟨by omega, by omega⟩, wrap1 i (by omega), ih, dlt, dlt, dgt, dgt, show decide (0 < i) = true by simp [h0]]
    generalize decide (bytAt s i ≥ 97) = p1; generalize decide (bytAt s i ≤ 122) = p2; generalize decide (bytAt s i ≥ 48) = p3; generalize decide (bytAt s i ≤ 57) = p4
    generalize allFrom s (i + 1) d = p6
    cases p1 <;> cases p2 <;> cases p3 <;> cases p4 <;> cases p6 <;> rfl
theorem T20 (s : ByteArray) (hs : s.size < 4611686018427387904) : Does E 20 [.one (tS s)] [(false, [tB (nameOk s)])] :=
  D20 (s.size + 1) s _ (by
    unfold sem20 nameOk
    rw [show (0 : Int) = ((0 : Nat) : Int) from rfl, loop20_ok s hs s.size 0 (s.size + 1) (by omega) (by omega)]
    generalize inRange (s.size : Int) 1 8 = p; cases allFrom s 0 s.size <;> cases p <;> rfl)
theorem T19 (s : ByteArray) (hs : s.size < 4611686018427387904) : Does E 19 [.one (tS s)] [(false, [tB (nameOk s)])] :=
  D19 (s.size + 1) s _ (by
    unfold sem19 nameOk
    rcases hr : inRange (s.size : Int) 1 8 with _ | _
    · rfl
    · have h1 : 0 < s.size := by simp [inRange] at hr; omega
      simp only [cond_true, Bool.true_and]
      rw [if_pos ⟨by omega, by omega⟩]
      obtain ⟨d, hd⟩ : ∃ d, s.size = d + 1 := ⟨s.size - 1, by omega⟩
      rw [hd, allFrom, ← hd]
      simp only [okAt, dlt, dgt]
      rw [show ((0 : Nat) : Int) = 0 from rfl]
      cases ha : decide (bytAt s 0 ≥ 97)
      · simp
      · cases hb : decide (bytAt s 0 ≤ 122)
        · simp
        · have h2 : loop19_0 (s.size + 1) s 0 = loop19_0 s.size s 1 := by
            simp only [loop19_0, dlt, dgt, ha, hb]
            rw [show decide ((0 : Int) ≥ (s.size : Int)) = false from decide_eq_false (by omega), if_pos ⟨by omega, by omega⟩]
            rfl
          rw [h2, show (1 : Int) = ((1 : Nat) : Int) from rfl, loop19_ok s hs d 1 s.size (by omega) (by omega) (by omega)]
          cases allFrom s 1 d <;> rfl)
end Go.Proofs.Ytbphhigmepdohaa.Am
namespace Go.Proofs.Ytbphhigmepdohaa.Am
set_option linter.unusedVariables false
set_option linter.unusedSimpArgs false
open Go Go.Proofs Classical
set_option maxRecDepth 100000
set_option linter.unusedVariables false
-- function 22: loop.example/g00188/spec.CommandOk
theorem L22_0 (x0 : S26) (h0 : (inRange x0.f1 (0 : Int) (1000000 : Int)) = true) (h1 : (inRange x0.f2 (0 : Int) (1000000 : Int)) = true) (h2 : (x0.f0 == (1 : Int)) = true) (h3 : (x0.f1 == (0 : Int)) = true) (h4 : (x0.f2 == (0 : Int)) = true) : Does E 22 [.agg (S26.t x0)] [(false, [tB (rest x0 false false false false false)])] :=
  Does.path (fn := Try.f22) [.ret [(false, [tB true])], .ret [(false, [tB true])], .b true, .b true, .b true, .ret [(false, [tB (rest x0 false false false false false)])]] [fun k => E.C k 71 [.one (tI x0.f1), .one (tI (0 : Int)), .one (tI (1000000 : Int))] = some [(false, [tB true])], fun k => E.C k 71 [.one (tI x0.f2), .one (tI (0 : Int)), .one (tI (1000000 : Int))] = some [(false, [tB true])], fun _ => (x0.f0 == (1 : Int)) = true, fun _ => (x0.f1 == (0 : Int)) = true, fun _ => (x0.f2 == (0 : Int)) = true, fun k => E.C k 73 [.agg (S26.t x0), .one (tB false), .one (tB false), .one (tB false), .one (tB false), .one (tB false)] = some [(false, [tB (rest x0 false false false false false)])]] rfl rfl (fun k => by kernel_rfl) ⟨Does.to (T71 x0.f1 (0 : Int) (1000000 : Int)) (by rw [h0]), Does.to (T71 x0.f2 (0 : Int) (1000000 : Int)) (by rw [h1]), Ev.c h2, Ev.c h3, Ev.c h4, T73 x0 false false false false false, trivial⟩
theorem L22_1 (x0 : S26) (h0 : (inRange x0.f1 (0 : Int) (1000000 : Int)) = true) (h1 : (inRange x0.f2 (0 : Int) (1000000 : Int)) = true) (h2 : (x0.f0 == (1 : Int)) = true) (h3 : (x0.f1 == (0 : Int)) = true) (h4 : (x0.f2 == (0 : Int)) = false) : Does E 22 [.agg (S26.t x0)] [(false, [tB false])] :=
  Does.path (fn := Try.f22) [.ret [(false, [tB true])], .ret [(false, [tB true])], .b true, .b true, .b false] [fun k => E.C k 71 [.one (tI x0.f1), .one (tI (0 : Int)), .one (tI (1000000 : Int))] = some [(false, [tB true])], fun k => E.C k 71 [.one (tI x0.f2), .one (tI (0 : Int)), .one (tI (1000000 : Int))] = some [(false, [tB true])], fun _ => (x0.f0 == (1 : Int)) = true, fun _ => (x0.f1 == (0 : Int)) = true, fun _ => (x0.f2 == (0 : Int)) = false] rfl rfl (fun k => by kernel_rfl) ⟨Does.to (T71 x0.f1 (0 : Int) (1000000 : Int)) (by rw [h0]), Does.to (T71 x0.f2 (0 : Int) (1000000 : Int)) (by rw [h1]), Ev.c h2, Ev.c h3, Ev.c h4, trivial⟩
theorem L22_2 (x0 : S26) (h0 : (inRange x0.f1 (0 : Int) (1000000 : Int)) = true) (h1 : (inRange x0.f2 (0 : Int) (1000000 : Int)) = true) (h2 : (x0.f0 == (1 : Int)) = true) (h3 : (x0.f1 == (0 : Int)) = false) : Does E 22 [.agg (S26.t x0)] [(false, [tB false])] :=
  Does.path (fn := Try.f22) [.ret [(false, [tB true])], .ret [(false, [tB true])], .b true, .b false] [fun k => E.C k 71 [.one (tI x0.f1), .one (tI (0 : Int)), .one (tI (1000000 : Int))] = some [(false, [tB true])], fun k => E.C k 71 [.one (tI x0.f2), .one (tI (0 : Int)), .one (tI (1000000 : Int))] = some [(false, [tB true])], fun _ => (x0.f0 == (1 : Int)) = true, fun _ => (x0.f1 == (0 : Int)) = false] rfl rfl (fun k => by kernel_rfl) ⟨Does.to (T71 x0.f1 (0 : Int) (1000000 : Int)) (by rw [h0]), Does.to (T71 x0.f2 (0 : Int) (1000000 : Int)) (by rw [h1]), Ev.c h2, Ev.c h3, trivial⟩
theorem L22_3 (x0 : S26) (h0 : (inRange x0.f1 (0 : Int) (1000000 : Int)) = true) (h1 : (inRange x0.f2 (0 : Int) (1000000 : Int)) = true) (h2 : (x0.f0 == (1 : Int)) = false) (h3 : (x0.f0 == (2 : Int)) = true) (h4 : (decide ((x0.f3.size : Int) ≤ (600 : Int))) = true) : Does E 22 [.agg (S26.t x0)] [(false, [tB (rest x0 true false false false false)])] :=
  Does.path (fn := Try.f22) [.ret [(false, [tB true])], .ret [(false, [tB true])], .b false, .b true, .b true, .ret [(false, [tB (rest x0 true false false false false)])]] [fun k => E.C k 71 [.one (tI x0.f1), .one (tI (0 : Int)), .one (tI (1000000 : Int))] = some [(false, [tB true])], fun k => E.C k 71 [.one (tI x0.f2), .one (tI (0 : Int)), .one (tI (1000000 : Int))] = some [(false, [tB true])], fun _ => (x0.f0 == (1 : Int)) = false, fun _ => (x0.f0 == (2 : Int)) = true, fun _ => (decide ((x0.f3.size : Int) ≤ (600 : Int))) = true, fun k => E.C k 73 [.agg (S26.t x0), .one (tB true), .one (tB false), .one (tB false), .one (tB false), .one (tB false)] = some [(false, [tB (rest x0 true false false false false)])]] rfl rfl (fun k => by kernel_rfl) ⟨Does.to (T71 x0.f1 (0 : Int) (1000000 : Int)) (by rw [h0]), Does.to (T71 x0.f2 (0 : Int) (1000000 : Int)) (by rw [h1]), Ev.c h2, Ev.c h3, Ev.c h4, T73 x0 true false false false false, trivial⟩
theorem L22_4 (x0 : S26) (h0 : (inRange x0.f1 (0 : Int) (1000000 : Int)) = true) (h1 : (inRange x0.f2 (0 : Int) (1000000 : Int)) = true) (h2 : (x0.f0 == (1 : Int)) = false) (h3 : (x0.f0 == (2 : Int)) = true) (h4 : (decide ((x0.f3.size : Int) ≤ (600 : Int))) = false) : Does E 22 [.agg (S26.t x0)] [(false, [tB false])] :=
  Does.path (fn := Try.f22) [.ret [(false, [tB true])], .ret [(false, [tB true])], .b false, .b true, .b false] [fun k => E.C k 71 [.one (tI x0.f1), .one (tI (0 : Int)), .one (tI (1000000 : Int))] = some [(false, [tB true])], fun k => E.C k 71 [.one (tI x0.f2), .one (tI (0 : Int)), .one (tI (1000000 : Int))] = some [(false, [tB true])], fun _ => (x0.f0 == (1 : Int)) = false, fun _ => (x0.f0 == (2 : Int)) = true, fun _ => (decide ((x0.f3.size : Int) ≤ (600 : Int))) = false] rfl rfl (fun k => by kernel_rfl) ⟨Does.to (T71 x0.f1 (0 : Int) (1000000 : Int)) (by rw [h0]), Does.to (T71 x0.f2 (0 : Int) (1000000 : Int)) (by rw [h1]), Ev.c h2, Ev.c h3, Ev.c h4, trivial⟩
theorem L22_5 (x0 : S26) (h0 : (inRange x0.f1 (0 : Int) (1000000 : Int)) = true) (h1 : (inRange x0.f2 (0 : Int) (1000000 : Int)) = true) (h2 : (x0.f0 == (1 : Int)) = false) (h3 : (x0.f0 == (2 : Int)) = false) (h4 : (x0.f0 == (3 : Int)) = true) (h5 : x0.f3.size < 4611686018427387904) (h6 : (nameOk x0.f3) = true) : Does E 22 [.agg (S26.t x0)] [(false, [tB (rest x0 true false false false true)])] :=
  Does.path (fn := Try.f22) [.ret [(false, [tB true])], .ret [(false, [tB true])], .b false, .b false, .b true, .ret [(false, [tB true])], .ret [(false, [tB (rest x0 true false false false true)])]] [fun k => E.C k 71 [.one (tI x0.f1), .one (tI (0 : Int)), .one (tI (1000000 : Int))] = some [(false, [tB true])], fun k => E.C k 71 [.one (tI x0.f2), .one (tI (0 : Int)), .one (tI (1000000 : Int))] = some [(false, [tB true])], fun _ => (x0.f0 == (1 : Int)) = false, fun _ => (x0.f0 == (2 : Int)) = false, fun _ => (x0.f0 == (3 : Int)) = true, fun k => E.C k 19 [.one (tS x0.f3)] = some [(false, [tB true])], fun k => E.C k 73 [.agg (S26.t x0), .one (tB true), .one (tB false), .one (tB false), .one (tB false), .one (tB true)] = some [(false, [tB (rest x0 true false false false true)])]] rfl rfl (fun k => by kernel_rfl) ⟨Does.to (T71 x0.f1 (0 : Int) (1000000 : Int)) (by rw [h0]), Does.to (T71 x0.f2 (0 : Int) (1000000 : Int)) (by rw [h1]), Ev.c h2, Ev.c h3, Ev.c h4, Does.to (T19 x0.f3 h5) (by rw [h6]), T73 x0 true false false false true, trivial⟩
theorem L22_6 (x0 : S26) (h0 : (inRange x0.f1 (0 : Int) (1000000 : Int)) = true) (h1 : (inRange x0.f2 (0 : Int) (1000000 : Int)) = true) (h2 : (x0.f0 == (1 : Int)) = false) (h3 : (x0.f0 == (2 : Int)) = false) (h4 : (x0.f0 == (3 : Int)) = true) (h5 : x0.f3.size < 4611686018427387904) (h6 : (nameOk x0.f3) = false) : Does E 22 [.agg (S26.t x0)] [(false, [tB false])] :=
  Does.path (fn := Try.f22) [.ret [(false, [tB true])], .ret [(false, [tB true])], .b false, .b false, .b true, .ret [(false, [tB false])]] [fun k => E.C k 71 [.one (tI x0.f1), .one (tI (0 : Int)), .one (tI (1000000 : Int))] = some [(false, [tB true])], fun k => E.C k 71 [.one (tI x0.f2), .one (tI (0 : Int)), .one (tI (1000000 : Int))] = some [(false, [tB true])], fun _ => (x0.f0 == (1 : Int)) = false, fun _ => (x0.f0 == (2 : Int)) = false, fun _ => (x0.f0 == (3 : Int)) = true, fun k => E.C k 19 [.one (tS x0.f3)] = some [(false, [tB false])]] rfl rfl (fun k => by kernel_rfl) ⟨Does.to (T71 x0.f1 (0 : Int) (1000000 : Int)) (by rw [h0]), Does.to (T71 x0.f2 (0 : Int) (1000000 : Int)) (by rw [h1]), Ev.c h2, Ev.c h3, Ev.c h4, Does.to (T19 x0.f3 h5) (by rw [h6]), trivial⟩
theorem L22_7 (x0 : S26) (h0 : (inRange x0.f1 (0 : Int) (1000000 : Int)) = true) (h1 : (inRange x0.f2 (0 : Int) (1000000 : Int)) = true) (h2 : (x0.f0 == (1 : Int)) = false) (h3 : (x0.f0 == (2 : Int)) = false) (h4 : (x0.f0 == (3 : Int)) = false) (h5 : (x0.f0 == (4 : Int)) = true) (h6 : (inRange x0.f5 (0 : Int) (68374079 : Int)) = true) : Does E 22 [.agg (S26.t x0)] [(false, [tB (rest x0 false false true false false)])] :=
  Does.path (fn := Try.f22) [.ret [(false, [tB true])], .ret [(false, [tB true])], .b false, .b false, .b false, .b true, .ret [(false, [tB true])], .ret [(false, [tB (rest x0 false false true false false)])]] [fun k => E.C k 71 [.one (tI x0.f1), .one (tI (0 : Int)), .one (tI (1000000 : Int))] = some [(false, [tB true])], fun k => E.C k 71 [.one (tI x0.f2), .one (tI (0 : Int)), .one (tI (1000000 : Int))] = some [(false, [tB true])], fun _ => (x0.f0 == (1 : Int)) = false, fun _ => (x0.f0 == (2 : Int)) = false, fun _ => (x0.f0 == (3 : Int)) = false, fun _ => (x0.f0 == (4 : Int)) = true, fun k => E.C k 71 [.one (tI x0.f5), .one (tI (0 : Int)), .one (tI (68374079 : Int))] = some [(false, [tB true])], fun k => E.C k 73 [.agg (S26.t x0), .one (tB false), .one (tB false), .one (tB true), .one (tB false), .one (tB false)] = some [(false, [tB (rest x0 false false true false false)])]] rfl rfl (fun k => by kernel_rfl) ⟨Does.to (T71 x0.f1 (0 : Int) (1000000 : Int)) (by rw [h0]), Does.to (T71 x0.f2 (0 : Int) (1000000 : Int)) (by rw [h1]), Ev.c h2, Ev.c h3, Ev.c h4, Ev.c h5, Does.to (T71 x0.f5 (0 : Int) (68374079 : Int)) (by rw [h6]), T73 x0 false false true false false, trivial⟩
theorem L22_8 (x0 : S26) (h0 : (inRange x0.f1 (0 : Int) (1000000 : Int)) = true) (h1 : (inRange x0.f2 (0 : Int) (1000000 : Int)) = true) (h2 : (x0.f0 == (1 : Int)) = false) (h3 : (x0.f0 == (2 : Int)) = false) (h4 : (x0.f0 == (3 : Int)) = false) (h5 : (x0.f0 == (4 : Int)) = true) (h6 : (inRange x0.f5 (0 : Int) (68374079 : Int)) = false) : Does E 22 [.agg (S26.t x0)] [(false, [tB false])] :=
  Does.path (fn := Try.f22) [.ret [(false, [tB true])], .ret [(false, [tB true])], .b false, .b false, .b false, .b true, .ret [(false, [tB false])]] [fun k => E.C k 71 [.one (tI x0.f1), .one (tI (0 : Int)), .one (tI (1000000 : Int))] = some [(false, [tB true])], fun k => E.C k 71 [.one (tI x0.f2), .one (tI (0 : Int)), .one (tI (1000000 : Int))] = some [(false, [tB true])], fun _ => (x0.f0 == (1 : Int)) = false, fun _ => (x0.f0 == (2 : Int)) = false, fun _ => (x0.f0 == (3 : Int)) = false, fun _ => (x0.f0 == (4 : Int)) = true, fun k => E.C k 71 [.one (tI x0.f5), .one (tI (0 : Int)), .one (tI (68374079 : Int))] = some [(false, [tB false])]] rfl rfl (fun k => by kernel_rfl) ⟨Does.to (T71 x0.f1 (0 : Int) (1000000 : Int)) (by rw [h0]), Does.to (T71 x0.f2 (0 : Int) (1000000 : Int)) (by rw [h1]), Ev.c h2, Ev.c h3, Ev.c h4, Ev.c h5, Does.to (T71 x0.f5 (0 : Int) (68374079 : Int)) (by rw [h6]), trivial⟩
theorem L22_9 (x0 : S26) (h0 : (inRange x0.f1 (0 : Int) (1000000 : Int)) = true) (h1 : (inRange x0.f2 (0 : Int) (1000000 : Int)) = true) (h2 : (x0.f0 == (1 : Int)) = false) (h3 : (x0.f0 == (2 : Int)) = false) (h4 : (x0.f0 == (3 : Int)) = false) (h5 : (x0.f0 == (4 : Int)) = false) (h6 : (x0.f0 == (5 : Int)) = true) : Does E 22 [.agg (S26.t x0)] [(false, [tB (rest x0 false false false false false)])] :=
  Does.path (fn := Try.f22) [.ret [(false, [tB true])], .ret [(false, [tB true])], .b false, .b false, .b false, .b false, .b true, .ret [(false, [tB (rest x0 false false false false false)])]] [fun k => E.C k 71 [.one (tI x0.f1), .one (tI (0 : Int)), .one (tI (1000000 : Int))] = some [(false, [tB true])], fun k => E.C k 71 [.one (tI x0.f2), .one (tI (0 : Int)), .one (tI (1000000 : Int))] = some [(false, [tB true])], fun _ => (x0.f0 == (1 : Int)) = false, fun _ => (x0.f0 == (2 : Int)) = false, fun _ => (x0.f0 == (3 : Int)) = false, fun _ => (x0.f0 == (4 : Int)) = false, fun _ => (x0.f0 == (5 : Int)) = true, fun k => E.C k 73 [.agg (S26.t x0), .one (tB false), .one (tB false), .one (tB false), .one (tB false), .one (tB false)] = some [(false, [tB (rest x0 false false false false false)])]] rfl rfl (fun k => by kernel_rfl) ⟨Does.to (T71 x0.f1 (0 : Int) (1000000 : Int)) (by rw [h0]), Does.to (T71 x0.f2 (0 : Int) (1000000 : Int)) (by rw [h1]), Ev.c h2, Ev.c h3, Ev.c h4, Ev.c h5, Ev.c h6, T73 x0 false false false false false, trivial⟩
theorem L22_10 (x0 : S26) (h0 : (inRange x0.f1 (0 : Int) (1000000 : Int)) = true) (h1 : (inRange x0.f2 (0 : Int) (1000000 : Int)) = true) (h2 : (x0.f0 == (1 : Int)) = false) (h3 : (x0.f0 == (2 : Int)) = false) (h4 : (x0.f0 == (3 : Int)) = false) (h5 : (x0.f0 == (4 : Int)) = false) (h6 : (x0.f0 == (5 : Int)) = false) (h7 : (x0.f0 == (6 : Int)) = true) (h8 : (inRange x0.f5 (0 : Int) (1000000000 : Int)) = true) : Does E 22 [.agg (S26.t x0)] [(false, [tB (rest x0 false false true false false)])] :=
  Does.path (fn := Try.f22) [.ret [(false, [tB true])], .ret [(false, [tB true])], .b false, .b false, .b false, .b false, .b false, .b true, .ret [(false, [tB true])], .ret [(false, [tB (rest x0 false false true false false)])]] [fun k => E.C k 71 [.one (tI x0.f1), .one (tI (0 : Int)), .one (tI (1000000 : Int))] = some [(false, [tB true])], fun k => E.C k 71 [.one (tI x0.f2), .one (tI (0 : Int)), .one (tI (1000000 : Int))] = some [(false, [tB true])], fun _ => (x0.f0 == (1 : Int)) = false, fun _ => (x0.f0 == (2 : Int)) = false, fun _ => (x0.f0 == (3 : Int)) = false, fun _ => (x0.f0 == (4 : Int)) = false, fun _ => (x0.f0 == (5 : Int)) = false, fun _ => (x0.f0 == (6 : Int)) = true, fun k => E.C k 71 [.one (tI x0.f5), .one (tI (0 : Int)), .one (tI (1000000000 : Int))] = some [(false, [tB true])], fun k => E.C k 73 [.agg (S26.t x0), .one (tB false), .one (tB false), .one (tB true), .one (tB false), .one (tB false)] = some [(false, [tB (rest x0 false false true false false)])]] rfl rfl (fun k => by kernel_rfl) ⟨Does.to (T71 x0.f1 (0 : Int) (1000000 : Int)) (by rw [h0]), Does.to (T71 x0.f2 (0 : Int) (1000000 : Int)) (by rw [h1]), Ev.c h2, Ev.c h3, Ev.c h4, Ev.c h5, Ev.c h6, Ev.c h7, Does.to (T71 x0.f5 (0 : Int) (1000000000 : Int)) (by rw [h8]), T73 x0 false false true false false, trivial⟩
theorem L22_11 (x0 : S26) (h0 : (inRange x0.f1 (0 : Int) (1000000 : Int)) = true) (h1 : (inRange x0.f2 (0 : Int) (1000000 : Int)) = true) (h2 : (x0.f0 == (1 : Int)) = false) (h3 : (x0.f0 == (2 : Int)) = false) (h4 : (x0.f0 == (3 : Int)) = false) (h5 : (x0.f0 == (4 : Int)) = false) (h6 : (x0.f0 == (5 : Int)) = false) (h7 : (x0.f0 == (6 : Int)) = true) (h8 : (inRange x0.f5 (0 : Int) (1000000000 : Int)) = false) : Does E 22 [.agg (S26.t x0)] [(false, [tB false])] :=
  Does.path (fn := Try.f22) [.ret [(false, [tB true])], .ret [(false, [tB true])], .b false, .b false, .b false, .b false, .b false, .b true, .ret [(false, [tB false])]] [fun k => E.C k 71 [.one (tI x0.f1), .one (tI (0 : Int)), .one (tI (1000000 : Int))] = some [(false, [tB true])], fun k => E.C k 71 [.one (tI x0.f2), .one (tI (0 : Int)), .one (tI (1000000 : Int))] = some [(false, [tB true])], fun _ => (x0.f0 == (1 : Int)) = false, fun _ => (x0.f0 == (2 : Int)) = false, fun _ => (x0.f0 == (3 : Int)) = false, fun _ => (x0.f0 == (4 : Int)) = false, fun _ => (x0.f0 == (5 : Int)) = false, fun _ => (x0.f0 == (6 : Int)) = true, fun k => E.C k 71 [.one (tI x0.f5), .one (tI (0 : Int)), .one (tI (1000000000 : Int))] = some [(false, [tB false])]] rfl rfl (fun k => by kernel_rfl) ⟨Does.to (T71 x0.f1 (0 : Int) (1000000 : Int)) (by rw [h0]), Does.to (T71 x0.f2 (0 : Int) (1000000 : Int)) (by rw [h1]), Ev.c h2, Ev.c h3, Ev.c h4, Ev.c h5, Ev.c h6, Ev.c h7, Does.to (T71 x0.f5 (0 : Int) (1000000000 : Int)) (by rw [h8]), trivial⟩
theorem L22_12 (x0 : S26) (h0 : (inRange x0.f1 (0 : Int) (1000000 : Int)) = true) (h1 : (inRange x0.f2 (0 : Int) (1000000 : Int)) = true) (h2 : (x0.f0 == (1 : Int)) = false) (h3 : (x0.f0 == (2 : Int)) = false) (h4 : (x0.f0 == (3 : Int)) = false) (h5 : (x0.f0 == (4 : Int)) = false) (h6 : (x0.f0 == (5 : Int)) = false) (h7 : (x0.f0 == (6 : Int)) = false) (h8 : (x0.f0 == (7 : Int)) = true) (h9 : (inRange x0.f5 (0 : Int) (1000000000 : Int)) = true) : Does E 22 [.agg (S26.t x0)] [(false, [tB (rest x0 false false true false true)])] :=
  Does.path (fn := Try.f22) [.ret [(false, [tB true])], .ret [(false, [tB true])], .b false, .b false, .b false, .b false, .b false, .b false, .b true, .ret [(false, [tB true])], .ret [(false, [tB (rest x0 false false true false true)])]] [fun k => E.C k 71 [.one (tI x0.f1), .one (tI (0 : Int)), .one (tI (1000000 : Int))] = some [(false, [tB true])], fun k => E.C k 71 [.one (tI x0.f2), .one (tI (0 : Int)), .one (tI (1000000 : Int))] = some [(false, [tB true])], fun _ => (x0.f0 == (1 : Int)) = false, fun _ => (x0.f0 == (2 : Int)) = false, fun _ => (x0.f0 == (3 : Int)) = false, fun _ => (x0.f0 == (4 : Int)) = false, fun _ => (x0.f0 == (5 : Int)) = false, fun _ => (x0.f0 == (6 : Int)) = false, fun _ => (x0.f0 == (7 : Int)) = true, fun k => E.C k 71 [.one (tI x0.f5), .one (tI (0 : Int)), .one (tI (1000000000 : Int))] = some [(false, [tB true])], fun k => E.C k 73 [.agg (S26.t x0), .one (tB false), .one (tB false), .one (tB true), .one (tB false), .one (tB true)] = some [(false, [tB (rest x0 false false true false true)])]] rfl rfl (fun k => by kernel_rfl) ⟨Does.to (T71 x0.f1 (0 : Int) (1000000 : Int)) (by rw [h0]), Does.to (T71 x0.f2 (0 : Int) (1000000 : Int)) (by rw [h1]), Ev.c h2, Ev.c h3, Ev.c h4, Ev.c h5, Ev.c h6, Ev.c h7, Ev.c h8, Does.to (T71 x0.f5 (0 : Int) (1000000000 : Int)) (by rw [h9]), T73 x0 false false true false true, trivial⟩
theorem L22_13 (x0 : S26) (h0 : (inRange x0.f1 (0 : Int) (1000000 : Int)) = true) (h1 : (inRange x0.f2 (0 : Int) (1000000 : Int)) = true) (h2 : (x0.f0 == (1 : Int)) = false) (h3 : (x0.f0 == (2 : Int)) = false) (h4 : (x0.f0 == (3 : Int)) = false) (h5 : (x0.f0 == (4 : Int)) = false) (h6 : (x0.f0 == (5 : Int)) = false) (h7 : (x0.f0 == (6 : Int)) = false) (h8 : (x0.f0 == (7 : Int)) = true) (h9 : (inRange x0.f5 (0 : Int) (1000000000 : Int)) = false) : Does E 22 [.agg (S26.t x0)] [(false, [tB false])] :=
  Does.path (fn := Try.f22) [.ret [(false, [tB true])], .ret [(false, [tB true])], .b false, .b false, .b false, .b false, .b false, .b false, .b true, .ret [(false, [tB false])]] [fun k => E.C k 71 [.one (tI x0.f1), .one (tI (0 : Int)), .one (tI (1000000 : Int))] = some [(false, [tB true])], fun k => E.C k 71 [.one (tI x0.f2), .one (tI (0 : Int)), .one (tI (1000000 : Int))] = some [(false, [tB true])], fun _ => (x0.f0 == (1 : Int)) = false, fun _ => (x0.f0 == (2 : Int)) = false, fun _ => (x0.f0 == (3 : Int)) = false, fun _ => (x0.f0 == (4 : Int)) = false, fun _ => (x0.f0 == (5 : Int)) = false, fun _ => (x0.f0 == (6 : Int)) = false, fun _ => (x0.f0 == (7 : Int)) = true, fun k => E.C k 71 [.one (tI x0.f5), .one (tI (0 : Int)), .one (tI (1000000000 : Int))] = some [(false, [tB false])]] rfl rfl (fun k => by kernel_rfl) ⟨Does.to (T71 x0.f1 (0 : Int) (1000000 : Int)) (by rw [h0]), Does.to (T71 x0.f2 (0 : Int) (1000000 : Int)) (by rw [h1]), Ev.c h2, Ev.c h3, Ev.c h4, Ev.c h5, Ev.c h6, Ev.c h7, Ev.c h8, Does.to (T71 x0.f5 (0 : Int) (1000000000 : Int)) (by rw [h9]), trivial⟩
theorem L22_14 (x0 : S26) (h0 : (inRange x0.f1 (0 : Int) (1000000 : Int)) = true) (h1 : (inRange x0.f2 (0 : Int) (1000000 : Int)) = true) (h2 : (x0.f0 == (1 : Int)) = false) (h3 : (x0.f0 == (2 : Int)) = false) (h4 : (x0.f0 == (3 : Int)) = false) (h5 : (x0.f0 == (4 : Int)) = false) (h6 : (x0.f0 == (5 : Int)) = false) (h7 : (x0.f0 == (6 : Int)) = false) (h8 : (x0.f0 == (7 : Int)) = false) (h9 : (x0.f0 == (8 : Int)) = true) (h10 : x0.f3.size < 4611686018427387904) (h11 : (nameOk x0.f3) = true) (h12 : (inRange x0.f5 (0 : Int) (68374079 : Int)) = true) (h13 : (inRange x0.f6 (0 : Int) (68374079 : Int)) = true) : Does E 22 [.agg (S26.t x0)] [(false, [tB (rest x0 true false true true false)])] :=
  Does.path (fn := Try.f22) [.ret [(false, [tB true])], .ret [(false, [tB true])], .b false, .b false, .b false, .b false, .b false, .b false, .b false, .b true, .ret [(false, [tB true])], .ret [(false, [tB true])], .ret [(false, [tB true])], .ret [(false, [tB (rest x0 true false true true false)])]] [fun k => E.C k 71 [.one (tI x0.f1), .one (tI (0 : Int)), .one (tI (1000000 : Int))] = some [(false, [tB true])], fun k => E.C k 71 [.one (tI x0.f2), .one (tI (0 : Int)), .one (tI (1000000 : Int))] = some [(false, [tB true])], fun _ => (x0.f0 == (1 : Int)) = false, fun _ => (x0.f0 == (2 : Int)) = false, fun _ => (x0.f0 == (3 : Int)) = false, fun _ => (x0.f0 == (4 : Int)) = false, fun _ => (x0.f0 == (5 : Int)) = false, fun _ => (x0.f0 == (6 : Int)) = false, fun _ => (x0.f0 == (7 : Int)) = false, fun _ => (x0.f0 == (8 : Int)) = true, fun k => E.C k 19 [.one (tS x0.f3)] = some [(false, [tB true])], fun k => E.C k 71 [.one (tI x0.f5), .one (tI (0 : Int)), .one (tI (68374079 : Int))] = some [(false, [tB true])], fun k => E.C k 71 [.one (tI x0.f6), .one (tI (0 : Int)), .one (tI (68374079 : Int))] = some [(false, [tB true])], fun k => E.C k 73 [.agg (S26.t x0), .one (tB true), .one (tB false), .one (tB true), .one (tB true), .one (tB false)] = some [(false, [tB (rest x0 true false true true false)])]] rfl rfl (fun k => by kernel_rfl) ⟨Does.to (T71 x0.f1 (0 : Int) (1000000 : Int)) (by rw [h0]), Does.to (T71 x0.f2 (0 : Int) (1000000 : Int)) (by rw [h1]), Ev.c h2, Ev.c h3, Ev.c h4, Ev.c h5, Ev.c h6, Ev.c h7, Ev.c h8, Ev.c h9, Does.to (T19 x0.f3 h10) (by rw [h11]), Does.to (T71 x0.f5 (0 : Int) (68374079 : Int)) (by rw [h12]), Does.to (T71 x0.f6 (0 : Int) (68374079 : Int)) (by rw [h13]), T73 x0 true false true true false, trivial⟩
theorem L22_15 (x0 : S26) (h0 : (inRange x0.f1 (0 : Int) (1000000 : Int)) = true) (h1 : (inRange x0.f2 (0 : Int) (1000000 : Int)) = true) (h2 : (x0.f0 == (1 : Int)) = false) (h3 : (x0.f0 == (2 : Int)) = false) (h4 : (x0.f0 == (3 : Int)) = false) (h5 : (x0.f0 == (4 : Int)) = false) (h6 : (x0.f0 == (5 : Int)) = false) (h7 : (x0.f0 == (6 : Int)) = false) (h8 : (x0.f0 == (7 : Int)) = false) (h9 : (x0.f0 == (8 : Int)) = true) (h10 : x0.f3.size < 4611686018427387904) (h11 : (nameOk x0.f3) = true) (h12 : (inRange x0.f5 (0 : Int) (68374079 : Int)) = true) (h13 : (inRange x0.f6 (0 : Int) (68374079 : Int)) = false) : Does E 22 [.agg (S26.t x0)] [(false, [tB false])] :=
  Does.path (fn := Try.f22) [.ret [(false, [tB true])], .ret [(false, [tB true])], .b false, .b false, .b false, .b false, .b false, .b false, .b false, .b true, .ret [(false, [tB true])], .ret [(false, [tB true])], .ret [(false, [tB false])]] [fun k => E.C k 71 [.one (tI x0.f1), .one (tI (0 : Int)), .one (tI (1000000 : Int))] = some [(false, [tB true])], fun k => E.C k 71 [.one (tI x0.f2), .one (tI (0 : Int)), .one (tI (1000000 : Int))] = some [(false, [tB true])], fun _ => (x0.f0 == (1 : Int)) = false, fun _ => (x0.f0 == (2 : Int)) = false, fun _ => (x0.f0 == (3 : Int)) = false, fun _ => (x0.f0 == (4 : Int)) = false, fun _ => (x0.f0 == (5 : Int)) = false, fun _ => (x0.f0 == (6 : Int)) = false, fun _ => (x0.f0 == (7 : Int)) = false, fun _ => (x0.f0 == (8 : Int)) = true, fun k => E.C k 19 [.one (tS x0.f3)] = some [(false, [tB true])], fun k => E.C k 71 [.one (tI x0.f5), .one (tI (0 : Int)), .one (tI (68374079 : Int))] = some [(false, [tB true])], fun k => E.C k 71 [.one (tI x0.f6), .one (tI (0 : Int)), .one (tI (68374079 : Int))] = some [(false, [tB false])]] rfl rfl (fun k => by kernel_rfl) ⟨Does.to (T71 x0.f1 (0 : Int) (1000000 : Int)) (by rw [h0]), Does.to (T71 x0.f2 (0 : Int) (1000000 : Int)) (by rw [h1]), Ev.c h2, Ev.c h3, Ev.c h4, Ev.c h5, Ev.c h6, Ev.c h7, Ev.c h8, Ev.c h9, Does.to (T19 x0.f3 h10) (by rw [h11]), Does.to (T71 x0.f5 (0 : Int) (68374079 : Int)) (by rw [h12]), Does.to (T71 x0.f6 (0 : Int) (68374079 : Int)) (by rw [h13]), trivial⟩
theorem L22_16 (x0 : S26) (h0 : (inRange x0.f1 (0 : Int) (1000000 : Int)) = true) (h1 : (inRange x0.f2 (0 : Int) (1000000 : Int)) = true) (h2 : (x0.f0 == (1 : Int)) = false) (h3 : (x0.f0 == (2 : Int)) = false) (h4 : (x0.f0 == (3 : Int)) = false) (h5 : (x0.f0 == (4 : Int)) = false) (h6 : (x0.f0 == (5 : Int)) = false) (h7 : (x0.f0 == (6 : Int)) = false) (h8 : (x0.f0 == (7 : Int)) = false) (h9 : (x0.f0 == (8 : Int)) = true) (h10 : x0.f3.size < 4611686018427387904) (h11 : (nameOk x0.f3) = true) (h12 : (inRange x0.f5 (0 : Int) (68374079 : Int)) = false) : Does E 22 [.agg (S26.t x0)] [(false, [tB false])] :=
  Does.path (fn := Try.f22) [.ret [(false, [tB true])], .ret [(false, [tB true])], .b false, .b false, .b false, .b false, .b false, .b false, .b false, .b true, .ret [(false, [tB true])], .ret [(false, [tB false])]] [fun k => E.C k 71 [.one (tI x0.f1), .one (tI (0 : Int)), .one (tI (1000000 : Int))] = some [(false, [tB true])], fun k => E.C k 71 [.one (tI x0.f2), .one (tI (0 : Int)), .one (tI (1000000 : Int))] = some [(false, [tB true])], fun _ => (x0.f0 == (1 : Int)) = false, fun _ => (x0.f0 == (2 : Int)) = false, fun _ => (x0.f0 == (3 : Int)) = false, fun _ => (x0.f0 == (4 : Int)) = false, fun _ => (x0.f0 == (5 : Int)) = false, fun _ => (x0.f0 == (6 : Int)) = false, fun _ => (x0.f0 == (7 : Int)) = false, fun _ => (x0.f0 == (8 : Int)) = true, fun k => E.C k 19 [.one (tS x0.f3)] = some [(false, [tB true])], fun k => E.C k 71 [.one (tI x0.f5), .one (tI (0 : Int)), .one (tI (68374079 : Int))] = some [(false, [tB false])]] rfl rfl (fun k => by kernel_rfl) ⟨Does.to (T71 x0.f1 (0 : Int) (1000000 : Int)) (by rw [h0]), Does.to (T71 x0.f2 (0 : Int) (1000000 : Int)) (by rw [h1]), Ev.c h2, Ev.c h3, Ev.c h4, Ev.c h5, Ev.c h6, Ev.c h7, Ev.c h8, Ev.c h9, Does.to (T19 x0.f3 h10) (by rw [h11]), Does.to (T71 x0.f5 (0 : Int) (68374079 : Int)) (by rw [h12]), trivial⟩
theorem L22_17 (x0 : S26) (h0 : (inRange x0.f1 (0 : Int) (1000000 : Int)) = true) (h1 : (inRange x0.f2 (0 : Int) (1000000 : Int)) = true) (h2 : (x0.f0 == (1 : Int)) = false) (h3 : (x0.f0 == (2 : Int)) = false) (h4 : (x0.f0 == (3 : Int)) = false) (h5 : (x0.f0 == (4 : Int)) = false) (h6 : (x0.f0 == (5 : Int)) = false) (h7 : (x0.f0 == (6 : Int)) = false) (h8 : (x0.f0 == (7 : Int)) = false) (h9 : (x0.f0 == (8 : Int)) = true) (h10 : x0.f3.size < 4611686018427387904) (h11 : (nameOk x0.f3) = false) : Does E 22 [.agg (S26.t x0)] [(false, [tB false])] :=
  Does.path (fn := Try.f22) [.ret [(false, [tB true])], .ret [(false, [tB true])], .b false, .b false, .b false, .b false, .b false, .b false, .b false, .b true, .ret [(false, [tB false])]] [fun k => E.C k 71 [.one (tI x0.f1), .one (tI (0 : Int)), .one (tI (1000000 : Int))] = some [(false, [tB true])], fun k => E.C k 71 [.one (tI x0.f2), .one (tI (0 : Int)), .one (tI (1000000 : Int))] = some [(false, [tB true])], fun _ => (x0.f0 == (1 : Int)) = false, fun _ => (x0.f0 == (2 : Int)) = false, fun _ => (x0.f0 == (3 : Int)) = false, fun _ => (x0.f0 == (4 : Int)) = false, fun _ => (x0.f0 == (5 : Int)) = false, fun _ => (x0.f0 == (6 : Int)) = false, fun _ => (x0.f0 == (7 : Int)) = false, fun _ => (x0.f0 == (8 : Int)) = true, fun k => E.C k 19 [.one (tS x0.f3)] = some [(false, [tB false])]] rfl rfl (fun k => by kernel_rfl) ⟨Does.to (T71 x0.f1 (0 : Int) (1000000 : Int)) (by rw [h0]), Does.to (T71 x0.f2 (0 : Int) (1000000 : Int)) (by rw [h1]), Ev.c h2, Ev.c h3, Ev.c h4, Ev.c h5, Ev.c h6, Ev.c h7, Ev.c h8, Ev.c h9, Does.to (T19 x0.f3 h10) (by rw [h11]), trivial⟩
theorem L22_18 (x0 : S26) (h0 : (inRange x0.f1 (0 : Int) (1000000 : Int)) = true) (h1 : (inRange x0.f2 (0 : Int) (1000000 : Int)) = true) (h2 : (x0.f0 == (1 : Int)) = false) (h3 : (x0.f0 == (2 : Int)) = false) (h4 : (x0.f0 == (3 : Int)) = false) (h5 : (x0.f0 == (4 : Int)) = false) (h6 : (x0.f0 == (5 : Int)) = false) (h7 : (x0.f0 == (6 : Int)) = false) (h8 : (x0.f0 == (7 : Int)) = false) (h9 : (x0.f0 == (8 : Int)) = false) (h10 : (x0.f0 == (9 : Int)) = true) (h11 : x0.f3.size < 4611686018427387904) (h12 : (nameOk x0.f3) = true) (h13 : x0.f4.size < 4611686018427387904) (h14 : (nameOk x0.f4) = true) (h15 : (inRange x0.f5 (0 : Int) (68374079 : Int)) = true) : Does E 22 [.agg (S26.t x0)] [(false, [tB (rest x0 true true true false false)])] :=
  Does.path (fn := Try.f22) [.ret [(false, [tB true])], .ret [(false, [tB true])], .b false, .b false, .b false, .b false, .b false, .b false, .b false, .b false, .b true, .ret [(false, [tB true])], .ret [(false, [tB true])], .ret [(false, [tB true])], .ret [(false, [tB (rest x0 true true true false false)])]] [fun k => E.C k 71 [.one (tI x0.f1), .one (tI (0 : Int)), .one (tI (1000000 : Int))] = some [(false, [tB true])], fun k => E.C k 71 [.one (tI x0.f2), .one (tI (0 : Int)), .one (tI (1000000 : Int))] = some [(false, [tB true])], fun _ => (x0.f0 == (1 : Int)) = false, fun _ => (x0.f0 == (2 : Int)) = false, fun _ => (x0.f0 == (3 : Int)) = false, fun _ => (x0.f0 == (4 : Int)) = false, fun _ => (x0.f0 == (5 : Int)) = false, fun _ => (x0.f0 == (6 : Int)) = false, fun _ => (x0.f0 == (7 : Int)) = false, fun _ => (x0.f0 == (8 : Int)) = false, fun _ => (x0.f0 == (9 : Int)) = true, fun k => E.C k 19 [.one (tS x0.f3)] = some [(false, [tB true])], fun k => E.C k 19 [.one (tS x0.f4)] = some [(false, [tB true])], fun k => E.C k 71 [.one (tI x0.f5), .one (tI (0 : Int)), .one (tI (68374079 : Int))] = some [(false, [tB true])], fun k => E.C k 73 [.agg (S26.t x0), .one (tB true), .one (tB true), .one (tB true), .one (tB false), .one (tB false)] = some [(false, [tB (rest x0 true true true false false)])]] rfl rfl (fun k => by kernel_rfl) ⟨Does.to (T71 x0.f1 (0 : Int) (1000000 : Int)) (by rw [h0]), Does.to (T71 x0.f2 (0 : Int) (1000000 : Int)) (by rw [h1]), Ev.c h2, Ev.c h3, Ev.c h4, Ev.c h5, Ev.c h6, Ev.c h7, Ev.c h8, Ev.c h9, Ev.c h10, Does.to (T19 x0.f3 h11) (by rw [h12]), Does.to (T19 x0.f4 h13) (by rw [h14]), Does.to (T71 x0.f5 (0 : Int) (68374079 : Int)) (by rw [h15]), T73 x0 true true true false false, trivial⟩
theorem L22_19 (x0 : S26) (h0 : (inRange x0.f1 (0 : Int) (1000000 : Int)) = true) (h1 : (inRange x0.f2 (0 : Int) (1000000 : Int)) = true) (h2 : (x0.f0 == (1 : Int)) = false) (h3 : (x0.f0 == (2 : Int)) = false) (h4 : (x0.f0 == (3 : Int)) = false) (h5 : (x0.f0 == (4 : Int)) = false) (h6 : (x0.f0 == (5 : Int)) = false) (h7 : (x0.f0 == (6 : Int)) = false) (h8 : (x0.f0 == (7 : Int)) = false) (h9 : (x0.f0 == (8 : Int)) = false) (h10 : (x0.f0 == (9 : Int)) = true) (h11 : x0.f3.size < 4611686018427387904) (h12 : (nameOk x0.f3) = true) (h13 : x0.f4.size < 4611686018427387904) (h14 : (nameOk x0.f4) = true) (h15 : (inRange x0.f5 (0 : Int) (68374079 : Int)) = false) : Does E 22 [.agg (S26.t x0)] [(false, [tB false])] :=
  Does.path (fn := Try.f22) [.ret [(false, [tB true])], .ret [(false, [tB true])], .b false, .b false, .b false, .b false, .b false, .b false, .b false, .b false, .b true, .ret [(false, [tB true])], .ret [(false, [tB true])], .ret [(false, [tB false])]] [fun k => E.C k 71 [.one (tI x0.f1), .one (tI (0 : Int)), .one (tI (1000000 : Int))] = some [(false, [tB true])], fun k => E.C k 71 [.one (tI x0.f2), .one (tI (0 : Int)), .one (tI (1000000 : Int))] = some [(false, [tB true])], fun _ => (x0.f0 == (1 : Int)) = false, fun _ => (x0.f0 == (2 : Int)) = false, fun _ => (x0.f0 == (3 : Int)) = false, fun _ => (x0.f0 == (4 : Int)) = false, fun _ => (x0.f0 == (5 : Int)) = false, fun _ => (x0.f0 == (6 : Int)) = false, fun _ => (x0.f0 == (7 : Int)) = false, fun _ => (x0.f0 == (8 : Int)) = false, fun _ => (x0.f0 == (9 : Int)) = true, fun k => E.C k 19 [.one (tS x0.f3)] = some [(false, [tB true])], fun k => E.C k 19 [.one (tS x0.f4)] = some [(false, [tB true])], fun k => E.C k 71 [.one (tI x0.f5), .one (tI (0 : Int)), .one (tI (68374079 : Int))] = some [(false, [tB false])]] rfl rfl (fun k => by kernel_rfl) ⟨Does.to (T71 x0.f1 (0 : Int) (1000000 : Int)) (by rw [h0]), Does.to (T71 x0.f2 (0 : Int) (1000000 : Int)) (by rw [h1]), Ev.c h2, Ev.c h3, Ev.c h4, Ev.c h5, Ev.c h6, Ev.c h7, Ev.c h8, Ev.c h9, Ev.c h10, Does.to (T19 x0.f3 h11) (by rw [h12]), Does.to (T19 x0.f4 h13) (by rw [h14]), Does.to (T71 x0.f5 (0 : Int) (68374079 : Int)) (by rw [h15]), trivial⟩
theorem L22_20 (x0 : S26) (h0 : (inRange x0.f1 (0 : Int) (1000000 : Int)) = true) (h1 : (inRange x0.f2 (0 : Int) (1000000 : Int)) = true) (h2 : (x0.f0 == (1 : Int)) = false) (h3 : (x0.f0 == (2 : Int)) = false) (h4 : (x0.f0 == (3 : Int)) = false) (h5 : (x0.f0 == (4 : Int)) = false) (h6 : (x0.f0 == (5 : Int)) = false) (h7 : (x0.f0 == (6 : Int)) = false) (h8 : (x0.f0 == (7 : Int)) = false) (h9 : (x0.f0 == (8 : Int)) = false) (h10 : (x0.f0 == (9 : Int)) = true) (h11 : x0.f3.size < 4611686018427387904) (h12 : (nameOk x0.f3) = true) (h13 : x0.f4.size < 4611686018427387904) (h14 : (nameOk x0.f4) = false) : Does E 22 [.agg (S26.t x0)] [(false, [tB false])] :=
  Does.path (fn := Try.f22) [.ret [(false, [tB true])], .ret [(false, [tB true])], .b false, .b false, .b false, .b false, .b false, .b false, .b false, .b false, .b true, .ret [(false, [tB true])], .ret [(false, [tB false])]] [fun k => E.C k 71 [.one (tI x0.f1), .one (tI (0 : Int)), .one (tI (1000000 : Int))] = some [(false, [tB true])], fun k => E.C k 71 [.one (tI x0.f2), .one (tI (0 : Int)), .one (tI (1000000 : Int))] = some [(false, [tB true])], fun _ => (x0.f0 == (1 : Int)) = false, fun _ => (x0.f0 == (2 : Int)) = false, fun _ => (x0.f0 == (3 : Int)) = false, fun _ => (x0.f0 == (4 : Int)) = false, fun _ => (x0.f0 == (5 : Int)) = false, fun _ => (x0.f0 == (6 : Int)) = false, fun _ => (x0.f0 == (7 : Int)) = false, fun _ => (x0.f0 == (8 : Int)) = false, fun _ => (x0.f0 == (9 : Int)) = true, fun k => E.C k 19 [.one (tS x0.f3)] = some [(false, [tB true])], fun k => E.C k 19 [.one (tS x0.f4)] = some [(false, [tB false])]] rfl rfl (fun k => by kernel_rfl) ⟨Does.to (T71 x0.f1 (0 : Int) (1000000 : Int)) (by rw [h0]), Does.to (T71 x0.f2 (0 : Int) (1000000 : Int)) (by rw [h1]), Ev.c h2, Ev.c h3, Ev.c h4, Ev.c h5, Ev.c h6, Ev.c h7, Ev.c h8, Ev.c h9, Ev.c h10, Does.to (T19 x0.f3 h11) (by rw [h12]), Does.to (T19 x0.f4 h13) (by rw [h14]), trivial⟩
theorem L22_21 (x0 : S26) (h0 : (inRange x0.f1 (0 : Int) (1000000 : Int)) = true) (h1 : (inRange x0.f2 (0 : Int) (1000000 : Int)) = true) (h2 : (x0.f0 == (1 : Int)) = false) (h3 : (x0.f0 == (2 : Int)) = false) (h4 : (x0.f0 == (3 : Int)) = false) (h5 : (x0.f0 == (4 : Int)) = false) (h6 : (x0.f0 == (5 : Int)) = false) (h7 : (x0.f0 == (6 : Int)) = false) (h8 : (x0.f0 == (7 : Int)) = false) (h9 : (x0.f0 == (8 : Int)) = false) (h10 : (x0.f0 == (9 : Int)) = true) (h11 : x0.f3.size < 4611686018427387904) (h12 : (nameOk x0.f3) = false) : Does E 22 [.agg (S26.t x0)] [(false, [tB false])] :=
  Does.path (fn := Try.f22) [.ret [(false, [tB true])], .ret [(false, [tB true])], .b false, .b false, .b false, .b false, .b false, .b false, .b false, .b false, .b true, .ret [(false, [tB false])]] [fun k => E.C k 71 [.one (tI x0.f1), .one (tI (0 : Int)), .one (tI (1000000 : Int))] = some [(false, [tB true])], fun k => E.C k 71 [.one (tI x0.f2), .one (tI (0 : Int)), .one (tI (1000000 : Int))] = some [(false, [tB true])], fun _ => (x0.f0 == (1 : Int)) = false, fun _ => (x0.f0 == (2 : Int)) = false, fun _ => (x0.f0 == (3 : Int)) = false, fun _ => (x0.f0 == (4 : Int)) = false, fun _ => (x0.f0 == (5 : Int)) = false, fun _ => (x0.f0 == (6 : Int)) = false, fun _ => (x0.f0 == (7 : Int)) = false, fun _ => (x0.f0 == (8 : Int)) = false, fun _ => (x0.f0 == (9 : Int)) = true, fun k => E.C k 19 [.one (tS x0.f3)] = some [(false, [tB false])]] rfl rfl (fun k => by kernel_rfl) ⟨Does.to (T71 x0.f1 (0 : Int) (1000000 : Int)) (by rw [h0]), Does.to (T71 x0.f2 (0 : Int) (1000000 : Int)) (by rw [h1]), Ev.c h2, Ev.c h3, Ev.c h4, Ev.c h5, Ev.c h6, Ev.c h7, Ev.c h8, Ev.c h9, Ev.c h10, Does.to (T19 x0.f3 h11) (by rw [h12]), trivial⟩
theorem L22_22 (x0 : S26) (h0 : (inRange x0.f1 (0 : Int) (1000000 : Int)) = true) (h1 : (inRange x0.f2 (0 : Int) (1000000 : Int)) = true) (h2 : (x0.f0 == (1 : Int)) = false) (h3 : (x0.f0 == (2 : Int)) = false) (h4 : (x0.f0 == (3 : Int)) = false) (h5 : (x0.f0 == (4 : Int)) = false) (h6 : (x0.f0 == (5 : Int)) = false) (h7 : (x0.f0 == (6 : Int)) = false) (h8 : (x0.f0 == (7 : Int)) = false) (h9 : (x0.f0 == (8 : Int)) = false) (h10 : (x0.f0 == (9 : Int)) = false) : Does E 22 [.agg (S26.t x0)] [(false, [tB false])] :=
  Does.path (fn := Try.f22) [.ret [(false, [tB true])], .ret [(false, [tB true])], .b false, .b false, .b false, .b false, .b false, .b false, .b false, .b false, .b false] [fun k => E.C k 71 [.one (tI x0.f1), .one (tI (0 : Int)), .one (tI (1000000 : Int))] = some [(false, [tB true])], fun k => E.C k 71 [.one (tI x0.f2), .one (tI (0 : Int)), .one (tI (1000000 : Int))] = some [(false, [tB true])], fun _ => (x0.f0 == (1 : Int)) = false, fun _ => (x0.f0 == (2 : Int)) = false, fun _ => (x0.f0 == (3 : Int)) = false, fun _ => (x0.f0 == (4 : Int)) = false, fun _ => (x0.f0 == (5 : Int)) = false, fun _ => (x0.f0 == (6 : Int)) = false, fun _ => (x0.f0 == (7 : Int)) = false, fun _ => (x0.f0 == (8 : Int)) = false, fun _ => (x0.f0 == (9 : Int)) = false] rfl rfl (fun k => by kernel_rfl) ⟨Does.to (T71 x0.f1 (0 : Int) (1000000 : Int)) (by rw [h0]), Does.to (T71 x0.f2 (0 : Int) (1000000 : Int)) (by rw [h1]), Ev.c h2, Ev.c h3, Ev.c h4, Ev.c h5, Ev.c h6, Ev.c h7, Ev.c h8, Ev.c h9, Ev.c h10, trivial⟩
theorem L22_23 (x0 : S26) (h0 : (inRange x0.f1 (0 : Int) (1000000 : Int)) = true) (h1 : (inRange x0.f2 (0 : Int) (1000000 : Int)) = false) : Does E 22 [.agg (S26.t x0)] [(false, [tB false])] :=
  Does.path (fn := Try.f22) [.ret [(false, [tB true])], .ret [(false, [tB false])]] [fun k => E.C k 71 [.one (tI x0.f1), .one (tI (0 : Int)), .one (tI (1000000 : Int))] = some [(false, [tB true])], fun k => E.C k 71 [.one (tI x0.f2), .one (tI (0 : Int)), .one (tI (1000000 : Int))] = some [(false, [tB false])]] rfl rfl (fun k => by kernel_rfl) ⟨Does.to (T71 x0.f1 (0 : Int) (1000000 : Int)) (by rw [h0]), Does.to (T71 x0.f2 (0 : Int) (1000000 : Int)) (by rw [h1]), trivial⟩
theorem L22_24 (x0 : S26) (h0 : (inRange x0.f1 (0 : Int) (1000000 : Int)) = false) : Does E 22 [.agg (S26.t x0)] [(false, [tB false])] :=
  Does.path (fn := Try.f22) [.ret [(false, [tB false])]] [fun k => E.C k 71 [.one (tI x0.f1), .one (tI (0 : Int)), .one (tI (1000000 : Int))] = some [(false, [tB false])]] rfl rfl (fun k => by kernel_rfl) ⟨Does.to (T71 x0.f1 (0 : Int) (1000000 : Int)) (by rw [h0]), trivial⟩
noncomputable def sem22 (x0 : S26) : Option (Bool) :=
    cond (inRange x0.f1 (0 : Int) (1000000 : Int))
      (cond (inRange x0.f2 (0 : Int) (1000000 : Int))
        (cond (x0.f0 == (1 : Int))
          (cond (x0.f1 == (0 : Int))
            (cond (x0.f2 == (0 : Int))
              (some (rest x0 false false false false false))
              (some (false)))
            (some (false)))
          (cond (x0.f0 == (2 : Int))
            (cond (decide ((x0.f3.size : Int) ≤ (600 : Int)))
              (some (rest x0 true false false false false))
              (some (false)))
            (cond (x0.f0 == (3 : Int))
              (if x0.f3.size < 4611686018427387904 then cond (nameOk x0.f3)
                (some (rest x0 true false false false true))
                (some (false)) else none)
              (cond (x0.f0 == (4 : Int))
                (cond (inRange x0.f5 (0 : Int) (68374079 : Int))
                  (some (rest x0 false false true false false))
                  (some (false)))
                (cond (x0.f0 == (5 : Int))
                  (some (rest x0 false false false false false))
                  (cond (x0.f0 == (6 : Int))
                    (cond (inRange x0.f5 (0 : Int) (1000000000 : Int))
                      (some (rest x0 false false true false false))
                      (some (false)))
                    (cond (x0.f0 == (7 : Int))
                      (cond (inRange x0.f5 (0 : Int) (1000000000 : Int))
                        (some (rest x0 false false true false true))
                        (some (false)))
                      (cond (x0.f0 == (8 : Int))
                        (if x0.f3.size < 4611686018427387904 then cond (nameOk x0.f3)
                          (cond (inRange x0.f5 (0 : Int) (68374079 : Int))
                            (cond (inRange x0.f6 (0 : Int) (68374079 : Int))
                              (some (rest x0 true false true true false))
                              (some (false)))
                            (some (false)))
                          (some (false)) else none)
                        (cond (x0.f0 == (9 : Int))
                          (if x0.f3.size < 4611686018427387904 then cond (nameOk x0.f3)
                            (if x0.f4.size < 4611686018427387904 then cond (nameOk x0.f4)
                              (cond (inRange x0.f5 (0 : Int) (68374079 : Int))
                                (some (rest x0 true true true false false))
                                (some (false)))
                              (some (false)) else none)
                            (some (false)) else none)
                          (some (false)))))))))))
        (some (false)))
      (some (false))
theorem D22 (x0 : S26) : Ans (sem22 x0) (fun r => Does E 22 [.agg (S26.t x0)] [(false, [tB r])]) := by
  unfold sem22
  refine Ans.ite (fun h0 => ?_) (fun h0 => ?_)
  · refine Ans.ite (fun h1 => ?_) (fun h1 => ?_)
    · refine Ans.ite (fun h2 => ?_) (fun h2 => ?_)
      · refine Ans.ite (fun h3 => ?_) (fun h3 => ?_)
        · refine Ans.ite (fun h4 => ?_) (fun h4 => ?_)
          · exact Ans.some (L22_0 x0 h0 h1 h2 h3 h4)
          · exact Ans.some (L22_1 x0 h0 h1 h2 h3 h4)
        · exact Ans.some (L22_2 x0 h0 h1 h2 h3)
      · refine Ans.ite (fun h3 => ?_) (fun h3 => ?_)
        · refine Ans.ite (fun h4 => ?_) (fun h4 => ?_)
          · exact Ans.some (L22_3 x0 h0 h1 h2 h3 h4)
          · exact Ans.some (L22_4 x0 h0 h1 h2 h3 h4)
        · refine Ans.ite (fun h4 => ?_) (fun h4 => ?_)
          · refine Ans.pre (fun h5 => ?_)
            refine Ans.ite (fun h6 => ?_) (fun h6 => ?_)
            · exact Ans.some (L22_5 x0 h0 h1 h2 h3 h4 h5 h6)
            · exact Ans.some (L22_6 x0 h0 h1 h2 h3 h4 h5 h6)
          · refine Ans.ite (fun h5 => ?_) (fun h5 => ?_)
            · refine Ans.ite (fun h6 => ?_) (fun h6 => ?_)
              · exact Ans.some (L22_7 x0 h0 h1 h2 h3 h4 h5 h6)
              · exact Ans.some (L22_8 x0 h0 h1 h2 h3 h4 h5 h6)
            · refine Ans.ite (fun h6 => ?_) (fun h6 => ?_)
              · exact Ans.some (L22_9 x0 h0 h1 h2 h3 h4 h5 h6)
              · refine Ans.ite (fun h7 => ?_) (fun h7 => ?_)
                · refine Ans.ite (fun h8 => ?_) (fun h8 => ?_)
                  · exact Ans.some (L22_10 x0 h0 h1 h2 h3 h4 h5 h6 h7 h8)
                  · exact Ans.some (L22_11 x0 h0 h1 h2 h3 h4 h5 h6 h7 h8)
                · refine Ans.ite (fun h8 => ?_) (fun h8 => ?_)
                  · refine Ans.ite (fun h9 => ?_) (fun h9 => ?_)
                    · exact Ans.some (L22_12 x0 h0 h1 h2 h3 h4 h5 h6 h7 h8 h9)
                    · exact Ans.some (L22_13 x0 h0 h1 h2 h3 h4 h5 h6 h7 h8 h9)
                  · refine Ans.ite (fun h9 => ?_) (fun h9 => ?_)
                    · refine Ans.pre (fun h10 => ?_)
                      refine Ans.ite (fun h11 => ?_) (fun h11 => ?_)
                      · refine Ans.ite (fun h12 => ?_) (fun h12 => ?_)
                        · refine Ans.ite (fun h13 => ?_) (fun h13 => ?_)
                          · exact Ans.some (L22_14 x0 h0 h1 h2 h3 h4 h5 h6 h7 h8 h9 h10 h11 h12 h13)
                          · exact Ans.some (L22_15 x0 h0 h1 h2 h3 h4 h5 h6 h7 h8 h9 h10 h11 h12 h13)
                        · exact Ans.some (L22_16 x0 h0 h1 h2 h3 h4 h5 h6 h7 h8 h9 h10 h11 h12)
                      · exact Ans.some (L22_17 x0 h0 h1 h2 h3 h4 h5 h6 h7 h8 h9 h10 h11)
                    · refine Ans.ite (fun h10 => ?_) (fun h10 => ?_)
                      · refine Ans.pre (fun h11 => ?_)
                        refine Ans.ite (fun h12 => ?_) (fun h12 => ?_)
                        · refine Ans.pre (fun h13 => ?_)
                          refine Ans.ite (fun h14 => ?_) (fun h14 => ?_)
                          · refine Ans.ite (fun h15 => ?_) (fun h15 => ?_)
                            · exact Ans.some (L22_18 x0 h0 h1 h2 h3 h4 h5 h6 h7 h8 h9 h10 h11 h12 h13 h14 h15)
                            · exact Ans.some (L22_19 x0 h0 h1 h2 h3 h4 h5 h6 h7 h8 h9 h10 h11 h12 h13 h14 h15)
                          · exact Ans.some (L22_20 x0 h0 h1 h2 h3 h4 h5 h6 h7 h8 h9 h10 h11 h12 h13 h14)
                        · exact Ans.some (L22_21 x0 h0 h1 h2 h3 h4 h5 h6 h7 h8 h9 h10 h11 h12)
                      · exact Ans.some (L22_22 x0 h0 h1 h2 h3 h4 h5 h6 h7 h8 h9 h10)
    · exact Ans.some (L22_23 x0 h0 h1)
  · exact Ans.some (L22_24 x0 h0)
-- function 24: loop.example/g00188/impl.CommandOk
theorem L24_0 (x0 : S26) (h0 : (isIndex x0.f1) = true) (h1 : (isIndex x0.f2) = true) (h2 : (x0.f0 == (1 : Int)) = true) (h3 : (x0.f1 == (0 : Int)) = true) (h4 : (x0.f2 == (0 : Int)) = true) : Does E 24 [.agg (S26.t x0)] [(false, [tB ((x0.f0 == x0.f0) && (((0 : Int) == (0 : Int)) && (((0 : Int) == (0 : Int)) && ((x0.f3.toList == ByteArray.empty.toList) && ((x0.f4.toList == ByteArray.empty.toList) && ((x0.f5 == (0 : Int)) && ((x0.f6 == (0 : Int)) && ((x0.f7 == false) && true))))))))])] :=
  Does.path (fn := Try.f24) [.ret [(false, [tB true])], .ret [(false, [tB true])], .b true, .b true, .b true] [fun k => E.C k 74 [.one (tI x0.f1)] = some [(false, [tB true])], fun k => E.C k 74 [.one (tI x0.f2)] = some [(false, [tB true])], fun _ => (x0.f0 == (1 : Int)) = true, fun _ => (x0.f1 == (0 : Int)) = true, fun _ => (x0.f2 == (0 : Int)) = true] rfl rfl (fun k => by kernel_rfl) ⟨Does.to (T74 x0.f1) (by rw [h0]), Does.to (T74 x0.f2) (by rw [h1]), Ev.c h2, Ev.c h3, Ev.c h4, trivial⟩
theorem L24_1 (x0 : S26) (h0 : (isIndex x0.f1) = true) (h1 : (isIndex x0.f2) = true) (h2 : (x0.f0 == (1 : Int)) = true) (h3 : (x0.f1 == (0 : Int)) = true) (h4 : (x0.f2 == (0 : Int)) = false) : Does E 24 [.agg (S26.t x0)] [(false, [tB false])] :=
  Does.path (fn := Try.f24) [.ret [(false, [tB true])], .ret [(false, [tB true])], .b true, .b true, .b false] [fun k => E.C k 74 [.one (tI x0.f1)] = some [(false, [tB true])], fun k => E.C k 74 [.one (tI x0.f2)] = some [(false, [tB true])], fun _ => (x0.f0 == (1 : Int)) = true, fun _ => (x0.f1 == (0 : Int)) = true, fun _ => (x0.f2 == (0 : Int)) = false] rfl rfl (fun k => by kernel_rfl) ⟨Does.to (T74 x0.f1) (by rw [h0]), Does.to (T74 x0.f2) (by rw [h1]), Ev.c h2, Ev.c h3, Ev.c h4, trivial⟩
theorem L24_2 (x0 : S26) (h0 : (isIndex x0.f1) = true) (h1 : (isIndex x0.f2) = true) (h2 : (x0.f0 == (1 : Int)) = true) (h3 : (x0.f1 == (0 : Int)) = false) : Does E 24 [.agg (S26.t x0)] [(false, [tB false])] :=
  Does.path (fn := Try.f24) [.ret [(false, [tB true])], .ret [(false, [tB true])], .b true, .b false] [fun k => E.C k 74 [.one (tI x0.f1)] = some [(false, [tB true])], fun k => E.C k 74 [.one (tI x0.f2)] = some [(false, [tB true])], fun _ => (x0.f0 == (1 : Int)) = true, fun _ => (x0.f1 == (0 : Int)) = false] rfl rfl (fun k => by kernel_rfl) ⟨Does.to (T74 x0.f1) (by rw [h0]), Does.to (T74 x0.f2) (by rw [h1]), Ev.c h2, Ev.c h3, trivial⟩
theorem L24_3 (x0 : S26) (h0 : (isIndex x0.f1) = true) (h1 : (isIndex x0.f2) = true) (h2 : (x0.f0 == (1 : Int)) = false) (h3 : (x0.f0 == (2 : Int)) = true) (h4 : (decide ((x0.f3.size : Int) ≤ (600 : Int))) = true) : Does E 24 [.agg (S26.t x0)] [(false, [tB ((x0.f0 == x0.f0) && (((0 : Int) == (0 : Int)) && (((0 : Int) == (0 : Int)) && ((ByteArray.empty.toList == ByteArray.empty.toList) && ((x0.f4.toList == ByteArray.empty.toList) && ((x0.f5 == (0 : Int)) && ((x0.f6 == (0 : Int)) && ((x0.f7 == false) && true))))))))])] :=
  Does.path (fn := Try.f24) [.ret [(false, [tB true])], .ret [(false, [tB true])], .b false, .b true, .b true] [fun k => E.C k 74 [.one (tI x0.f1)] = some [(false, [tB true])], fun k => E.C k 74 [.one (tI x0.f2)] = some [(false, [tB true])], fun _ => (x0.f0 == (1 : Int)) = false, fun _ => (x0.f0 == (2 : Int)) = true, fun _ => (decide ((x0.f3.size : Int) ≤ (600 : Int))) = true] rfl rfl (fun k => by kernel_rfl) ⟨Does.to (T74 x0.f1) (by rw [h0]), Does.to (T74 x0.f2) (by rw [h1]), Ev.c h2, Ev.c h3, Ev.c h4, trivial⟩
theorem L24_4 (x0 : S26) (h0 : (isIndex x0.f1) = true) (h1 : (isIndex x0.f2) = true) (h2 : (x0.f0 == (1 : Int)) = false) (h3 : (x0.f0 == (2 : Int)) = true) (h4 : (decide ((x0.f3.size : Int) ≤ (600 : Int))) = false) : Does E 24 [.agg (S26.t x0)] [(false, [tB false])] :=
  Does.path (fn := Try.f24) [.ret [(false, [tB true])], .ret [(false, [tB true])], .b false, .b true, .b false] [fun k => E.C k 74 [.one (tI x0.f1)] = some [(false, [tB true])], fun k => E.C k 74 [.one (tI x0.f2)] = some [(false, [tB true])], fun _ => (x0.f0 == (1 : Int)) = false, fun _ => (x0.f0 == (2 : Int)) = true, fun _ => (decide ((x0.f3.size : Int) ≤ (600 : Int))) = false] rfl rfl (fun k => by kernel_rfl) ⟨Does.to (T74 x0.f1) (by rw [h0]), Does.to (T74 x0.f2) (by rw [h1]), Ev.c h2, Ev.c h3, Ev.c h4, trivial⟩
theorem L24_5 (x0 : S26) (h0 : (isIndex x0.f1) = true) (h1 : (isIndex x0.f2) = true) (h2 : (x0.f0 == (1 : Int)) = false) (h3 : (x0.f0 == (2 : Int)) = false) (h4 : (x0.f0 == (3 : Int)) = true) (h5 : x0.f3.size < 4611686018427387904) (h6 : (nameOk x0.f3) = true) : Does E 24 [.agg (S26.t x0)] [(false, [tB ((x0.f0 == x0.f0) && (((0 : Int) == (0 : Int)) && (((0 : Int) == (0 : Int)) && ((ByteArray.empty.toList == ByteArray.empty.toList) && ((x0.f4.toList == ByteArray.empty.toList) && ((x0.f5 == (0 : Int)) && ((x0.f6 == (0 : Int)) && ((false == false) && true))))))))])] :=
  Does.path (fn := Try.f24) [.ret [(false, [tB true])], .ret [(false, [tB true])], .b false, .b false, .b true, .ret [(false, [tB true])]] [fun k => E.C k 74 [.one (tI x0.f1)] = some [(false, [tB true])], fun k => E.C k 74 [.one (tI x0.f2)] = some [(false, [tB true])], fun _ => (x0.f0 == (1 : Int)) = false, fun _ => (x0.f0 == (2 : Int)) = false, fun _ => (x0.f0 == (3 : Int)) = true, fun k => E.C k 20 [.one (tS x0.f3)] = some [(false, [tB true])]] rfl rfl (fun k => by kernel_rfl) ⟨Does.to (T74 x0.f1) (by rw [h0]), Does.to (T74 x0.f2) (by rw [h1]), Ev.c h2, Ev.c h3, Ev.c h4, Does.to (T20 x0.f3 h5) (by rw [h6]), trivial⟩
theorem L24_6 (x0 : S26) (h0 : (isIndex x0.f1) = true) (h1 : (isIndex x0.f2) = true) (h2 : (x0.f0 == (1 : Int)) = false) (h3 : (x0.f0 == (2 : Int)) = false) (h4 : (x0.f0 == (3 : Int)) = true) (h5 : x0.f3.size < 4611686018427387904) (h6 : (nameOk x0.f3) = false) : Does E 24 [.agg (S26.t x0)] [(false, [tB false])] :=
  Does.path (fn := Try.f24) [.ret [(false, [tB true])], .ret [(false, [tB true])], .b false, .b false, .b true, .ret [(false, [tB false])]] [fun k => E.C k 74 [.one (tI x0.f1)] = some [(false, [tB true])], fun k => E.C k 74 [.one (tI x0.f2)] = some [(false, [tB true])], fun _ => (x0.f0 == (1 : Int)) = false, fun _ => (x0.f0 == (2 : Int)) = false, fun _ => (x0.f0 == (3 : Int)) = true, fun k => E.C k 20 [.one (tS x0.f3)] = some [(false, [tB false])]] rfl rfl (fun k => by kernel_rfl) ⟨Does.to (T74 x0.f1) (by rw [h0]), Does.to (T74 x0.f2) (by rw [h1]), Ev.c h2, Ev.c h3, Ev.c h4, Does.to (T20 x0.f3 h5) (by rw [h6]), trivial⟩
theorem L24_7 (x0 : S26) (h0 : (isIndex x0.f1) = true) (h1 : (isIndex x0.f2) = true) (h2 : (x0.f0 == (1 : Int)) = false) (h3 : (x0.f0 == (2 : Int)) = false) (h4 : (x0.f0 == (3 : Int)) = false) (h5 : (x0.f0 == (4 : Int)) = true) (h6 : (isMinute x0.f5) = true) : Does E 24 [.agg (S26.t x0)] [(false, [tB ((x0.f0 == x0.f0) && (((0 : Int) == (0 : Int)) && (((0 : Int) == (0 : Int)) && ((x0.f3.toList == ByteArray.empty.toList) && ((x0.f4.toList == ByteArray.empty.toList) && (((0 : Int) == (0 : Int)) && ((x0.f6 == (0 : Int)) && ((x0.f7 == false) && true))))))))])] :=
  Does.path (fn := Try.f24) [.ret [(false, [tB true])], .ret [(false, [tB true])], .b false, .b false, .b false, .b true, .ret [(false, [tB true])]] [fun k => E.C k 74 [.one (tI x0.f1)] = some [(false, [tB true])], fun k => E.C k 74 [.one (tI x0.f2)] = some [(false, [tB true])], fun _ => (x0.f0 == (1 : Int)) = false, fun _ => (x0.f0 == (2 : Int)) = false, fun _ => (x0.f0 == (3 : Int)) = false, fun _ => (x0.f0 == (4 : Int)) = true, fun k => E.C k 75 [.one (tI x0.f5)] = some [(false, [tB true])]] rfl rfl (fun k => by kernel_rfl) ⟨Does.to (T74 x0.f1) (by rw [h0]), Does.to (T74 x0.f2) (by rw [h1]), Ev.c h2, Ev.c h3, Ev.c h4, Ev.c h5, Does.to (T75 x0.f5) (by rw [h6]), trivial⟩
theorem L24_8 (x0 : S26) (h0 : (isIndex x0.f1) = true) (h1 : (isIndex x0.f2) = true) (h2 : (x0.f0 == (1 : Int)) = false) (h3 : (x0.f0 == (2 : Int)) = false) (h4 : (x0.f0 == (3 : Int)) = false) (h5 : (x0.f0 == (4 : Int)) = true) (h6 : (isMinute x0.f5) = false) : Does E 24 [.agg (S26.t x0)] [(false, [tB false])] :=
  Does.path (fn := Try.f24) [.ret [(false, [tB true])], .ret [(false, [tB true])], .b false, .b false, .b false, .b true, .ret [(false, [tB false])]] [fun k => E.C k 74 [.one (tI x0.f1)] = some [(false, [tB true])], fun k => E.C k 74 [.one (tI x0.f2)] = some [(false, [tB true])], fun _ => (x0.f0 == (1 : Int)) = false, fun _ => (x0.f0 == (2 : Int)) = false, fun _ => (x0.f0 == (3 : Int)) = false, fun _ => (x0.f0 == (4 : Int)) = true, fun k => E.C k 75 [.one (tI x0.f5)] = some [(false, [tB false])]] rfl rfl (fun k => by kernel_rfl) ⟨Does.to (T74 x0.f1) (by rw [h0]), Does.to (T74 x0.f2) (by rw [h1]), Ev.c h2, Ev.c h3, Ev.c h4, Ev.c h5, Does.to (T75 x0.f5) (by rw [h6]), trivial⟩
theorem L24_9 (x0 : S26) (h0 : (isIndex x0.f1) = true) (h1 : (isIndex x0.f2) = true) (h2 : (x0.f0 == (1 : Int)) = false) (h3 : (x0.f0 == (2 : Int)) = false) (h4 : (x0.f0 == (3 : Int)) = false) (h5 : (x0.f0 == (4 : Int)) = false) (h6 : (x0.f0 == (5 : Int)) = true) : Does E 24 [.agg (S26.t x0)] [(false, [tB ((x0.f0 == x0.f0) && (((0 : Int) == (0 : Int)) && (((0 : Int) == (0 : Int)) && ((x0.f3.toList == ByteArray.empty.toList) && ((x0.f4.toList == ByteArray.empty.toList) && ((x0.f5 == (0 : Int)) && ((x0.f6 == (0 : Int)) && ((x0.f7 == false) && true))))))))])] :=
  Does.path (fn := Try.f24) [.ret [(false, [tB true])], .ret [(false, [tB true])], .b false, .b false, .b false, .b false, .b true] [fun k => E.C k 74 [.one (tI x0.f1)] = some [(false, [tB true])], fun k => E.C k 74 [.one (tI x0.f2)] = some [(false, [tB true])], fun _ => (x0.f0 == (1 : Int)) = false, fun _ => (x0.f0 == (2 : Int)) = false, fun _ => (x0.f0 == (3 : Int)) = false, fun _ => (x0.f0 == (4 : Int)) = false, fun _ => (x0.f0 == (5 : Int)) = true] rfl rfl (fun k => by kernel_rfl) ⟨Does.to (T74 x0.f1) (by rw [h0]), Does.to (T74 x0.f2) (by rw [h1]), Ev.c h2, Ev.c h3, Ev.c h4, Ev.c h5, Ev.c h6, trivial⟩
theorem L24_10 (x0 : S26) (h0 : (isIndex x0.f1) = true) (h1 : (isIndex x0.f2) = true) (h2 : (x0.f0 == (1 : Int)) = false) (h3 : (x0.f0 == (2 : Int)) = false) (h4 : (x0.f0 == (3 : Int)) = false) (h5 : (x0.f0 == (4 : Int)) = false) (h6 : (x0.f0 == (5 : Int)) = false) (h7 : (x0.f0 == (6 : Int)) = true) (h8 : (inRange x0.f5 (0 : Int) (1000000000 : Int)) = true) : Does E 24 [.agg (S26.t x0)] [(false, [tB ((x0.f0 == x0.f0) && (((0 : Int) == (0 : Int)) && (((0 : Int) == (0 : Int)) && ((x0.f3.toList == ByteArray.empty.toList) && ((x0.f4.toList == ByteArray.empty.toList) && (((0 : Int) == (0 : Int)) && ((x0.f6 == (0 : Int)) && ((x0.f7 == false) && true))))))))])] :=
  Does.path (fn := Try.f24) [.ret [(false, [tB true])], .ret [(false, [tB true])], .b false, .b false, .b false, .b false, .b false, .b true, .ret [(false, [tB true])]] [fun k => E.C k 74 [.one (tI x0.f1)] = some [(false, [tB true])], fun k => E.C k 74 [.one (tI x0.f2)] = some [(false, [tB true])], fun _ => (x0.f0 == (1 : Int)) = false, fun _ => (x0.f0 == (2 : Int)) = false, fun _ => (x0.f0 == (3 : Int)) = false, fun _ => (x0.f0 == (4 : Int)) = false, fun _ => (x0.f0 == (5 : Int)) = false, fun _ => (x0.f0 == (6 : Int)) = true, fun k => E.C k 72 [.one (tI x0.f5), .one (tI (0 : Int)), .one (tI (1000000000 : Int))] = some [(false, [tB true])]] rfl rfl (fun k => by kernel_rfl) ⟨Does.to (T74 x0.f1) (by rw [h0]), Does.to (T74 x0.f2) (by rw [h1]), Ev.c h2, Ev.c h3, Ev.c h4, Ev.c h5, Ev.c h6, Ev.c h7, Does.to (T72 x0.f5 (0 : Int) (1000000000 : Int)) (by rw [h8]), trivial⟩
theorem L24_11 (x0 : S26) (h0 : (isIndex x0.f1) = true) (h1 : (isIndex x0.f2) = true) (h2 : (x0.f0 == (1 : Int)) = false) (h3 : (x0.f0 == (2 : Int)) = false) (h4 : (x0.f0 == (3 : Int)) = false) (h5 : (x0.f0 == (4 : Int)) = false) (h6 : (x0.f0 == (5 : Int)) = false) (h7 : (x0.f0 == (6 : Int)) = true) (h8 : (inRange x0.f5 (0 : Int) (1000000000 : Int)) = false) : Does E 24 [.agg (S26.t x0)] [(false, [tB false])] :=
  Does.path (fn := Try.f24) [.ret [(false, [tB true])], .ret [(false, [tB true])], .b false, .b false, .b false, .b false, .b false, .b true, .ret [(false, [tB false])]] [fun k => E.C k 74 [.one (tI x0.f1)] = some [(false, [tB true])], fun k => E.C k 74 [.one (tI x0.f2)] = some [(false, [tB true])], fun _ => (x0.f0 == (1 : Int)) = false, fun _ => (x0.f0 == (2 : Int)) = false, fun _ => (x0.f0 == (3 : Int)) = false, fun _ => (x0.f0 == (4 : Int)) = false, fun _ => (x0.f0 == (5 : Int)) = false, fun _ => (x0.f0 == (6 : Int)) = true, fun k => E.C k 72 [.one (tI x0.f5), .one (tI (0 : Int)), .one (tI (1000000000 : Int))] = some [(false, [tB false])]] rfl rfl (fun k => by kernel_rfl) ⟨Does.to (T74 x0.f1) (by rw [h0]), Does.to (T74 x0.f2) (by rw [h1]), Ev.c h2, Ev.c h3, Ev.c h4, Ev.c h5, Ev.c h6, Ev.c h7, Does.to (T72 x0.f5 (0 : Int) (1000000000 : Int)) (by rw [h8]), trivial⟩
theorem L24_12 (x0 : S26) (h0 : (isIndex x0.f1) = true) (h1 : (isIndex x0.f2) = true) (h2 : (x0.f0 == (1 : Int)) = false) (h3 : (x0.f0 == (2 : Int)) = false) (h4 : (x0.f0 == (3 : Int)) = false) (h5 : (x0.f0 == (4 : Int)) = false) (h6 : (x0.f0 == (5 : Int)) = false) (h7 : (x0.f0 == (6 : Int)) = false) (h8 : (x0.f0 == (7 : Int)) = true) (h9 : (inRange x0.f5 (0 : Int) (1000000000 : Int)) = true) : Does E 24 [.agg (S26.t x0)] [(false, [tB ((x0.f0 == x0.f0) && (((0 : Int) == (0 : Int)) && (((0 : Int) == (0 : Int)) && ((x0.f3.toList == ByteArray.empty.toList) && ((x0.f4.toList == ByteArray.empty.toList) && (((0 : Int) == (0 : Int)) && ((x0.f6 == (0 : Int)) && ((false == false) && true))))))))])] :=
  Does.path (fn := Try.f24) [.ret [(false, [tB true])], .ret [(false, [tB true])], .b false, .b false, .b false, .b false, .b false, .b false, .b true, .ret [(false, [tB true])]] [fun k => E.C k 74 [.one (tI x0.f1)] = some [(false, [tB true])], fun k => E.C k 74 [.one (tI x0.f2)] = some [(false, [tB true])], fun _ => (x0.f0 == (1 : Int)) = false, fun _ => (x0.f0 == (2 : Int)) = false, fun _ => (x0.f0 == (3 : Int)) = false, fun _ => (x0.f0 == (4 : Int)) = false, fun _ => (x0.f0 == (5 : Int)) = false, fun _ => (x0.f0 == (6 : Int)) = false, fun _ => (x0.f0 == (7 : Int)) = true, fun k => E.C k 72 [.one (tI x0.f5), .one (tI (0 : Int)), .one (tI (1000000000 : Int))] = some [(false, [tB true])]] rfl rfl (fun k => by kernel_rfl) ⟨Does.to (T74 x0.f1) (by rw [h0]), Does.to (T74 x0.f2) (by rw [h1]), Ev.c h2, Ev.c h3, Ev.c h4, Ev.c h5, Ev.c h6, Ev.c h7, Ev.c h8, Does.to (T72 x0.f5 (0 : Int) (1000000000 : Int)) (by rw [h9]), trivial⟩
theorem L24_13 (x0 : S26) (h0 : (isIndex x0.f1) = true) (h1 : (isIndex x0.f2) = true) (h2 : (x0.f0 == (1 : Int)) = false) (h3 : (x0.f0 == (2 : Int)) = false) (h4 : (x0.f0 == (3 : Int)) = false) (h5 : (x0.f0 == (4 : Int)) = false) (h6 : (x0.f0 == (5 : Int)) = false) (h7 : (x0.f0 == (6 : Int)) = false) (h8 : (x0.f0 == (7 : Int)) = true) (h9 : (inRange x0.f5 (0 : Int) (1000000000 : Int)) = false) : Does E 24 [.agg (S26.t x0)] [(false, [tB false])] :=
  Does.path (fn := Try.f24) [.ret [(false, [tB true])], .ret [(false, [tB true])], .b false, .b false, .b false, .b false, .b false, .b false, .b true, .ret [(false, [tB false])]] [fun k => E.C k 74 [.one (tI x0.f1)] = some [(false, [tB true])], fun k => E.C k 74 [.one (tI x0.f2)] = some [(false, [tB true])], fun _ => (x0.f0 == (1 : Int)) = false, fun _ => (x0.f0 == (2 : Int)) = false, fun _ => (x0.f0 == (3 : Int)) = false, fun _ => (x0.f0 == (4 : Int)) = false, fun _ => (x0.f0 == (5 : Int)) = false, fun _ => (x0.f0 == (6 : Int)) = false, fun _ => (x0.f0 == (7 : Int)) = true, fun k => E.C k 72 [.one (tI x0.f5), .one (tI (0 : Int)), .one (tI (1000000000 : Int))] = some [(false, [tB false])]] rfl rfl (fun k => by kernel_rfl) ⟨Does.to (T74 x0.f1) (by rw [h0]), Does.to (T74 x0.f2) (by rw [h1]), Ev.c h2, Ev.c h3, Ev.c h4, Ev.c h5, Ev.c h6, Ev.c h7, Ev.c h8, Does.to (T72 x0.f5 (0 : Int) (1000000000 : Int)) (by rw [h9]), trivial⟩
theorem L24_14 (x0 : S26) (h0 : (isIndex x0.f1) = true) (h1 : (isIndex x0.f2) = true) (h2 : (x0.f0 == (1 : Int)) = false) (h3 : (x0.f0 == (2 : Int)) = false) (h4 : (x0.f0 == (3 : Int)) = false) (h5 : (x0.f0 == (4 : Int)) = false) (h6 : (x0.f0 == (5 : Int)) = false) (h7 : (x0.f0 == (6 : Int)) = false) (h8 : (x0.f0 == (7 : Int)) = false) (h9 : (x0.f0 == (8 : Int)) = true) (h10 : x0.f3.size < 4611686018427387904) (h11 : (nameOk x0.f3) = true) (h12 : (isMinute x0.f5) = true) (h13 : (isMinute x0.f6) = true) : Does E 24 [.agg (S26.t x0)] [(false, [tB ((x0.f0 == x0.f0) && (((0 : Int) == (0 : Int)) && (((0 : Int) == (0 : Int)) && ((ByteArray.empty.toList == ByteArray.empty.toList) && ((x0.f4.toList == ByteArray.empty.toList) && (((0 : Int) == (0 : Int)) && (((0 : Int) == (0 : Int)) && ((x0.f7 == false) && true))))))))])] :=
  Does.path (fn := Try.f24) [.ret [(false, [tB true])], .ret [(false, [tB true])], .b false, .b false, .b false, .b false, .b false, .b false, .b false, .b true, .ret [(false, [tB true])], .ret [(false, [tB true])], .ret [(false, [tB true])]] [fun k => E.C k 74 [.one (tI x0.f1)] = some [(false, [tB true])], fun k => E.C k 74 [.one (tI x0.f2)] = some [(false, [tB true])], fun _ => (x0.f0 == (1 : Int)) = false, fun _ => (x0.f0 == (2 : Int)) = false, fun _ => (x0.f0 == (3 : Int)) = false, fun _ => (x0.f0 == (4 : Int)) = false, fun _ => (x0.f0 == (5 : Int)) = false, fun _ => (x0.f0 == (6 : Int)) = false, fun _ => (x0.f0 == (7 : Int)) = false, fun _ => (x0.f0 == (8 : Int)) = true, fun k => E.C k 20 [.one (tS x0.f3)] = some [(false, [tB true])], fun k => E.C k 75 [.one (tI x0.f5)] = some [(false, [tB true])], fun k => E.C k 75 [.one (tI x0.f6)] = some [(false, [tB true])]] rfl rfl (fun k => by kernel_rfl) ⟨Does.to (T74 x0.f1) (by rw [h0]), Does.to (T74 x0.f2) (by rw [h1]), Ev.c h2, Ev.c h3, Ev.c h4, Ev.c h5, Ev.c h6, Ev.c h7, Ev.c h8, Ev.c h9, Does.to (T20 x0.f3 h10) (by rw [h11]), Does.to (T75 x0.f5) (by rw [h12]), Does.to (T75 x0.f6) (by rw [h13]), trivial⟩
theorem L24_15 (x0 : S26) (h0 : (isIndex x0.f1) = true) (h1 : (isIndex x0.f2) = true) (h2 : (x0.f0 == (1 : Int)) = false) (h3 : (x0.f0 == (2 : Int)) = false) (h4 : (x0.f0 == (3 : Int)) = false) (h5 : (x0.f0 == (4 : Int)) = false) (h6 : (x0.f0 == (5 : Int)) = false) (h7 : (x0.f0 == (6 : Int)) = false) (h8 : (x0.f0 == (7 : Int)) = false) (h9 : (x0.f0 == (8 : Int)) = true) (h10 : x0.f3.size < 4611686018427387904) (h11 : (nameOk x0.f3) = true) (h12 : (isMinute x0.f5) = true) (h13 : (isMinute x0.f6) = false) : Does E 24 [.agg (S26.t x0)] [(false, [tB false])] :=
  Does.path (fn := Try.f24) [.ret [(false, [tB true])], .ret [(false, [tB true])], .b false, .b false, .b false, .b false, .b false, .b false, .b false, .b true, .ret [(false, [tB true])], .ret [(false, [tB true])], .ret [(false, [tB false])]] [fun k => E.C k 74 [.one (tI x0.f1)] = some [(false, [tB true])], fun k => E.C k 74 [.one (tI x0.f2)] = some [(false, [tB true])], fun _ => (x0.f0 == (1 : Int)) = false, fun _ => (x0.f0 == (2 : Int)) = false, fun _ => (x0.f0 == (3 : Int)) = false, fun _ => (x0.f0 == (4 : Int)) = false, fun _ => (x0.f0 == (5 : Int)) = false, fun _ => (x0.f0 == (6 : Int)) = false, fun _ => (x0.f0 == (7 : Int)) = false, fun _ => (x0.f0 == (8 : Int)) = true, fun k => E.C k 20 [.one (tS x0.f3)] = some [(false, [tB true])], fun k => E.C k 75 [.one (tI x0.f5)] = some [(false, [tB true])], fun k => E.C k 75 [.one (tI x0.f6)] = some [(false, [tB false])]] rfl rfl (fun k => by kernel_rfl) ⟨Does.to (T74 x0.f1) (by rw [h0]), Does.to (T74 x0.f2) (by rw [h1]), Ev.c h2, Ev.c h3, Ev.c h4, Ev.c h5, Ev.c h6, Ev.c h7, Ev.c h8, Ev.c h9, Does.to (T20 x0.f3 h10) (by rw [h11]), Does.to (T75 x0.f5) (by rw [h12]), Does.to (T75 x0.f6) (by rw [h13]), trivial⟩
theorem L24_16 (x0 : S26) (h0 : (isIndex x0.f1) = true) (h1 : (isIndex x0.f2) = true) (h2 : (x0.f0 == (1 : Int)) = false) (h3 : (x0.f0 == (2 : Int)) = false) (h4 : (x0.f0 == (3 : Int)) = false) (h5 : (x0.f0 == (4 : Int)) = false) (h6 : (x0.f0 == (5 : Int)) = false) (h7 : (x0.f0 == (6 : Int)) = false) (h8 : (x0.f0 == (7 : Int)) = false) (h9 : (x0.f0 == (8 : Int)) = true) (h10 : x0.f3.size < 4611686018427387904) (h11 : (nameOk x0.f3) = true) (h12 : (isMinute x0.f5) = false) : Does E 24 [.agg (S26.t x0)] [(false, [tB false])] :=
  Does.path (fn := Try.f24) [.ret [(false, [tB true])], .ret [(false, [tB true])], .b false, .b false, .b false, .b false, .b false, .b false, .b false, .b true, .ret [(false, [tB true])], .ret [(false, [tB false])]] [fun k => E.C k 74 [.one (tI x0.f1)] = some [(false, [tB true])], fun k => E.C k 74 [.one (tI x0.f2)] = some [(false, [tB true])], fun _ => (x0.f0 == (1 : Int)) = false, fun _ => (x0.f0 == (2 : Int)) = false, fun _ => (x0.f0 == (3 : Int)) = false, fun _ => (x0.f0 == (4 : Int)) = false, fun _ => (x0.f0 == (5 : Int)) = false, fun _ => (x0.f0 == (6 : Int)) = false, fun _ => (x0.f0 == (7 : Int)) = false, fun _ => (x0.f0 == (8 : Int)) = true, fun k => E.C k 20 [.one (tS x0.f3)] = some [(false, [tB true])], fun k => E.C k 75 [.one (tI x0.f5)] = some [(false, [tB false])]] rfl rfl (fun k => by kernel_rfl) ⟨Does.to (T74 x0.f1) (by rw [h0]), Does.to (T74 x0.f2) (by rw [h1]), Ev.c h2, Ev.c h3, Ev.c h4, Ev.c h5, Ev.c h6, Ev.c h7, Ev.c h8, Ev.c h9, Does.to (T20 x0.f3 h10) (by rw [h11]), Does.to (T75 x0.f5) (by rw [h12]), trivial⟩
theorem L24_17 (x0 : S26) (h0 : (isIndex x0.f1) = true) (h1 : (isIndex x0.f2) = true) (h2 : (x0.f0 == (1 : Int)) = false) (h3 : (x0.f0 == (2 : Int)) = false) (h4 : (x0.f0 == (3 : Int)) = false) (h5 : (x0.f0 == (4 : Int)) = false) (h6 : (x0.f0 == (5 : Int)) = false) (h7 : (x0.f0 == (6 : Int)) = false) (h8 : (x0.f0 == (7 : Int)) = false) (h9 : (x0.f0 == (8 : Int)) = true) (h10 : x0.f3.size < 4611686018427387904) (h11 : (nameOk x0.f3) = false) : Does E 24 [.agg (S26.t x0)] [(false, [tB false])] :=
  Does.path (fn := Try.f24) [.ret [(false, [tB true])], .ret [(false, [tB true])], .b false, .b false, .b false, .b false, .b false, .b false, .b false, .b true, .ret [(false, [tB false])]] [fun k => E.C k 74 [.one (tI x0.f1)] = some [(false, [tB true])], fun k => E.C k 74 [.one (tI x0.f2)] = some [(false, [tB true])], fun _ => (x0.f0 == (1 : Int)) = false, fun _ => (x0.f0 == (2 : Int)) = false, fun _ => (x0.f0 == (3 : Int)) = false, fun _ => (x0.f0 == (4 : Int)) = false, fun _ => (x0.f0 == (5 : Int)) = false, fun _ => (x0.f0 == (6 : Int)) = false, fun _ => (x0.f0 == (7 : Int)) = false, fun _ => (x0.f0 == (8 : Int)) = true, fun k => E.C k 20 [.one (tS x0.f3)] = some [(false, [tB false])]] rfl rfl (fun k => by kernel_rfl) ⟨Does.to (T74 x0.f1) (by rw [h0]), Does.to (T74 x0.f2) (by rw [h1]), Ev.c h2, Ev.c h3, Ev.c h4, Ev.c h5, Ev.c h6, Ev.c h7, Ev.c h8, Ev.c h9, Does.to (T20 x0.f3 h10) (by rw [h11]), trivial⟩
theorem L24_18 (x0 : S26) (h0 : (isIndex x0.f1) = true) (h1 : (isIndex x0.f2) = true) (h2 : (x0.f0 == (1 : Int)) = false) (h3 : (x0.f0 == (2 : Int)) = false) (h4 : (x0.f0 == (3 : Int)) = false) (h5 : (x0.f0 == (4 : Int)) = false) (h6 : (x0.f0 == (5 : Int)) = false) (h7 : (x0.f0 == (6 : Int)) = false) (h8 : (x0.f0 == (7 : Int)) = false) (h9 : (x0.f0 == (8 : Int)) = false) (h10 : (x0.f0 == (9 : Int)) = true) (h11 : x0.f3.size < 4611686018427387904) (h12 : (nameOk x0.f3) = true) (h13 : (isMinute x0.f5) = true) (h14 : x0.f4.size < 4611686018427387904) (h15 : (nameOk x0.f4) = true) : Does E 24 [.agg (S26.t x0)] [(false, [tB ((x0.f0 == x0.f0) && (((0 : Int) == (0 : Int)) && (((0 : Int) == (0 : Int)) && ((ByteArray.empty.toList == ByteArray.empty.toList) && ((ByteArray.empty.toList == ByteArray.empty.toList) && (((0 : Int) == (0 : Int)) && ((x0.f6 == (0 : Int)) && ((x0.f7 == false) && true))))))))])] :=
  Does.path (fn := Try.f24) [.ret [(false, [tB true])], .ret [(false, [tB true])], .b false, .b false, .b false, .b false, .b false, .b false, .b false, .b false, .b true, .ret [(false, [tB true])], .ret [(false, [tB true])], .ret [(false, [tB true])]] [fun k => E.C k 74 [.one (tI x0.f1)] = some [(false, [tB true])], fun k => E.C k 74 [.one (tI x0.f2)] = some [(false, [tB true])], fun _ => (x0.f0 == (1 : Int)) = false, fun _ => (x0.f0 == (2 : Int)) = false, fun _ => (x0.f0 == (3 : Int)) = false, fun _ => (x0.f0 == (4 : Int)) = false, fun _ => (x0.f0 == (5 : Int)) = false, fun _ => (x0.f0 == (6 : Int)) = false, fun _ => (x0.f0 == (7 : Int)) = false, fun _ => (x0.f0 == (8 : Int)) = false, fun _ => (x0.f0 == (9 : Int)) = true, fun k => E.C k 20 [.one (tS x0.f3)] = some [(false, [tB true])], fun k => E.C k 75 [.one (tI x0.f5)] = some [(false, [tB true])], fun k => E.C k 20 [.one (tS x0.f4)] = some [(false, [tB true])]] rfl rfl (fun k => by kernel_rfl) ⟨Does.to (T74 x0.f1) (by rw [h0]), Does.to (T74 x0.f2) (by rw [h1]), Ev.c h2, Ev.c h3, Ev.c h4, Ev.c h5, Ev.c h6, Ev.c h7, Ev.c h8, Ev.c h9, Ev.c h10, Does.to (T20 x0.f3 h11) (by rw [h12]), Does.to (T75 x0.f5) (by rw [h13]), Does.to (T20 x0.f4 h14) (by rw [h15]), trivial⟩
theorem L24_19 (x0 : S26) (h0 : (isIndex x0.f1) = true) (h1 : (isIndex x0.f2) = true) (h2 : (x0.f0 == (1 : Int)) = false) (h3 : (x0.f0 == (2 : Int)) = false) (h4 : (x0.f0 == (3 : Int)) = false) (h5 : (x0.f0 == (4 : Int)) = false) (h6 : (x0.f0 == (5 : Int)) = false) (h7 : (x0.f0 == (6 : Int)) = false) (h8 : (x0.f0 == (7 : Int)) = false) (h9 : (x0.f0 == (8 : Int)) = false) (h10 : (x0.f0 == (9 : Int)) = true) (h11 : x0.f3.size < 4611686018427387904) (h12 : (nameOk x0.f3) = true) (h13 : (isMinute x0.f5) = true) (h14 : x0.f4.size < 4611686018427387904) (h15 : (nameOk x0.f4) = false) : Does E 24 [.agg (S26.t x0)] [(false, [tB false])] :=
  Does.path (fn := Try.f24) [.ret [(false, [tB true])], .ret [(false, [tB true])], .b false, .b false, .b false, .b false, .b false, .b false, .b false, .b false, .b true, .ret [(false, [tB true])], .ret [(false, [tB true])], .ret [(false, [tB false])]] [fun k => E.C k 74 [.one (tI x0.f1)] = some [(false, [tB true])], fun k => E.C k 74 [.one (tI x0.f2)] = some [(false, [tB true])], fun _ => (x0.f0 == (1 : Int)) = false, fun _ => (x0.f0 == (2 : Int)) = false, fun _ => (x0.f0 == (3 : Int)) = false, fun _ => (x0.f0 == (4 : Int)) = false, fun _ => (x0.f0 == (5 : Int)) = false, fun _ => (x0.f0 == (6 : Int)) = false, fun _ => (x0.f0 == (7 : Int)) = false, fun _ => (x0.f0 == (8 : Int)) = false, fun _ => (x0.f0 == (9 : Int)) = true, fun k => E.C k 20 [.one (tS x0.f3)] = some [(false, [tB true])], fun k => E.C k 75 [.one (tI x0.f5)] = some [(false, [tB true])], fun k => E.C k 20 [.one (tS x0.f4)] = some [(false, [tB false])]] rfl rfl (fun k => by kernel_rfl) ⟨Does.to (T74 x0.f1) (by rw [h0]), Does.to (T74 x0.f2) (by rw [h1]), Ev.c h2, Ev.c h3, Ev.c h4, Ev.c h5, Ev.c h6, Ev.c h7, Ev.c h8, Ev.c h9, Ev.c h10, Does.to (T20 x0.f3 h11) (by rw [h12]), Does.to (T75 x0.f5) (by rw [h13]), Does.to (T20 x0.f4 h14) (by rw [h15]), trivial⟩
theorem L24_20 (x0 : S26) (h0 : (isIndex x0.f1) = true) (h1 : (isIndex x0.f2) = true) (h2 : (x0.f0 == (1 : Int)) = false) (h3 : (x0.f0 == (2 : Int)) = false) (h4 : (x0.f0 == (3 : Int)) = false) (h5 : (x0.f0 == (4 : Int)) = false) (h6 : (x0.f0 == (5 : Int)) = false) (h7 : (x0.f0 == (6 : Int)) = false) (h8 : (x0.f0 == (7 : Int)) = false) (h9 : (x0.f0 == (8 : Int)) = false) (h10 : (x0.f0 == (9 : Int)) = true) (h11 : x0.f3.size < 4611686018427387904) (h12 : (nameOk x0.f3) = true) (h13 : (isMinute x0.f5) = false) : Does E 24 [.agg (S26.t x0)] [(false, [tB false])] :=
  Does.path (fn := Try.f24) [.ret [(false, [tB true])], .ret [(false, [tB true])], .b false, .b false, .b false, .b false, .b false, .b false, .b false, .b false, .b true, .ret [(false, [tB true])], .ret [(false, [tB false])]] [fun k => E.C k 74 [.one (tI x0.f1)] = some [(false, [tB true])], fun k => E.C k 74 [.one (tI x0.f2)] = some [(false, [tB true])], fun _ => (x0.f0 == (1 : Int)) = false, fun _ => (x0.f0 == (2 : Int)) = false, fun _ => (x0.f0 == (3 : Int)) = false, fun _ => (x0.f0 == (4 : Int)) = false, fun _ => (x0.f0 == (5 : Int)) = false, fun _ => (x0.f0 == (6 : Int)) = false, fun _ => (x0.f0 == (7 : Int)) = false, fun _ => (x0.f0 == (8 : Int)) = false, fun _ => (x0.f0 == (9 : Int)) = true, fun k => E.C k 20 [.one (tS x0.f3)] = some [(false, [tB true])], fun k => E.C k 75 [.one (tI x0.f5)] = some [(false, [tB false])]] rfl rfl (fun k => by kernel_rfl) ⟨Does.to (T74 x0.f1) (by rw [h0]), Does.to (T74 x0.f2) (by rw [h1]), Ev.c h2, Ev.c h3, Ev.c h4, Ev.c h5, Ev.c h6, Ev.c h7, Ev.c h8, Ev.c h9, Ev.c h10, Does.to (T20 x0.f3 h11) (by rw [h12]), Does.to (T75 x0.f5) (by rw [h13]), trivial⟩
theorem L24_21 (x0 : S26) (h0 : (isIndex x0.f1) = true) (h1 : (isIndex x0.f2) = true) (h2 : (x0.f0 == (1 : Int)) = false) (h3 : (x0.f0 == (2 : Int)) = false) (h4 : (x0.f0 == (3 : Int)) = false) (h5 : (x0.f0 == (4 : Int)) = false) (h6 : (x0.f0 == (5 : Int)) = false) (h7 : (x0.f0 == (6 : Int)) = false) (h8 : (x0.f0 == (7 : Int)) = false) (h9 : (x0.f0 == (8 : Int)) = false) (h10 : (x0.f0 == (9 : Int)) = true) (h11 : x0.f3.size < 4611686018427387904) (h12 : (nameOk x0.f3) = false) : Does E 24 [.agg (S26.t x0)] [(false, [tB false])] :=
  Does.path (fn := Try.f24) [.ret [(false, [tB true])], .ret [(false, [tB true])], .b false, .b false, .b false, .b false, .b false, .b false, .b false, .b false, .b true, .ret [(false, [tB false])]] [fun k => E.C k 74 [.one (tI x0.f1)] = some [(false, [tB true])], fun k => E.C k 74 [.one (tI x0.f2)] = some [(false, [tB true])], fun _ => (x0.f0 == (1 : Int)) = false, fun _ => (x0.f0 == (2 : Int)) = false, fun _ => (x0.f0 == (3 : Int)) = false, fun _ => (x0.f0 == (4 : Int)) = false, fun _ => (x0.f0 == (5 : Int)) = false, fun _ => (x0.f0 == (6 : Int)) = false, fun _ => (x0.f0 == (7 : Int)) = false, fun _ => (x0.f0 == (8 : Int)) = false, fun _ => (x0.f0 == (9 : Int)) = true, fun k => E.C k 20 [.one (tS x0.f3)] = some [(false, [tB false])]] rfl rfl (fun k => by kernel_rfl) ⟨Does.to (T74 x0.f1) (by rw [h0]), Does.to (T74 x0.f2) (by rw [h1]), Ev.c h2, Ev.c h3, Ev.c h4, Ev.c h5, Ev.c h6, Ev.c h7, Ev.c h8, Ev.c h9, Ev.c h10, Does.to (T20 x0.f3 h11) (by rw [h12]), trivial⟩
theorem L24_22 (x0 : S26) (h0 : (isIndex x0.f1) = true) (h1 : (isIndex x0.f2) = true) (h2 : (x0.f0 == (1 : Int)) = false) (h3 : (x0.f0 == (2 : Int)) = false) (h4 : (x0.f0 == (3 : Int)) = false) (h5 : (x0.f0 == (4 : Int)) = false) (h6 : (x0.f0 == (5 : Int)) = false) (h7 : (x0.f0 == (6 : Int)) = false) (h8 : (x0.f0 == (7 : Int)) = false) (h9 : (x0.f0 == (8 : Int)) = false) (h10 : (x0.f0 == (9 : Int)) = false) : Does E 24 [.agg (S26.t x0)] [(false, [tB false])] :=
  Does.path (fn := Try.f24) [.ret [(false, [tB true])], .ret [(false, [tB true])], .b false, .b false, .b false, .b false, .b false, .b false, .b false, .b false, .b false] [fun k => E.C k 74 [.one (tI x0.f1)] = some [(false, [tB true])], fun k => E.C k 74 [.one (tI x0.f2)] = some [(false, [tB true])], fun _ => (x0.f0 == (1 : Int)) = false, fun _ => (x0.f0 == (2 : Int)) = false, fun _ => (x0.f0 == (3 : Int)) = false, fun _ => (x0.f0 == (4 : Int)) = false, fun _ => (x0.f0 == (5 : Int)) = false, fun _ => (x0.f0 == (6 : Int)) = false, fun _ => (x0.f0 == (7 : Int)) = false, fun _ => (x0.f0 == (8 : Int)) = false, fun _ => (x0.f0 == (9 : Int)) = false] rfl rfl (fun k => by kernel_rfl) ⟨Does.to (T74 x0.f1) (by rw [h0]), Does.to (T74 x0.f2) (by rw [h1]), Ev.c h2, Ev.c h3, Ev.c h4, Ev.c h5, Ev.c h6, Ev.c h7, Ev.c h8, Ev.c h9, Ev.c h10, trivial⟩
theorem L24_23 (x0 : S26) (h0 : (isIndex x0.f1) = true) (h1 : (isIndex x0.f2) = false) : Does E 24 [.agg (S26.t x0)] [(false, [tB false])] :=
  Does.path (fn := Try.f24) [.ret [(false, [tB true])], .ret [(false, [tB false])]] [fun k => E.C k 74 [.one (tI x0.f1)] = some [(false, [tB true])], fun k => E.C k 74 [.one (tI x0.f2)] = some [(false, [tB false])]] rfl rfl (fun k => by kernel_rfl) ⟨Does.to (T74 x0.f1) (by rw [h0]), Does.to (T74 x0.f2) (by rw [h1]), trivial⟩
theorem L24_24 (x0 : S26) (h0 : (isIndex x0.f1) = false) : Does E 24 [.agg (S26.t x0)] [(false, [tB false])] :=
  Does.path (fn := Try.f24) [.ret [(false, [tB false])]] [fun k => E.C k 74 [.one (tI x0.f1)] = some [(false, [tB false])]] rfl rfl (fun k => by kernel_rfl) ⟨Does.to (T74 x0.f1) (by rw [h0]), trivial⟩
noncomputable def sem24 (x0 : S26) : Option (Bool) :=
    cond (isIndex x0.f1)
      (cond (isIndex x0.f2)
        (cond (x0.f0 == (1 : Int))
          (cond (x0.f1 == (0 : Int))
            (cond (x0.f2 == (0 : Int))
              (some ((x0.f0 == x0.f0) && (((0 : Int) == (0 : Int)) && (((0 : Int) == (0 : Int)) && ((x0.f3.toList == ByteArray.empty.toList) && ((x0.f4.toList == ByteArray.empty.toList) && ((x0.f5 == (0 : Int)) && ((x0.f6 == (0 : Int)) && ((x0.f7 == false) && true)))))))))
              (some (false)))
            (some (false)))
          (cond (x0.f0 == (2 : Int))
            (cond (decide ((x0.f3.size : Int) ≤ (600 : Int)))
              (some ((x0.f0 == x0.f0) && (((0 : Int) == (0 : Int)) && (((0 : Int) == (0 : Int)) && ((ByteArray.empty.toList == ByteArray.empty.toList) && ((x0.f4.toList == ByteArray.empty.toList) && ((x0.f5 == (0 : Int)) && ((x0.f6 == (0 : Int)) && ((x0.f7 == false) && true)))))))))
              (some (false)))
            (cond (x0.f0 == (3 : Int))
              (if x0.f3.size < 4611686018427387904 then cond (nameOk x0.f3)
                (some ((x0.f0 == x0.f0) && (((0 : Int) == (0 : Int)) && (((0 : Int) == (0 : Int)) && ((ByteArray.empty.toList == ByteArray.empty.toList) && ((x0.f4.toList == ByteArray.empty.toList) && ((x0.f5 == (0 : Int)) && ((x0.f6 == (0 : Int)) && ((false == false) && true)))))))))
                (some (false)) else none)
              (cond (x0.f0 == (4 : Int))
                (cond (isMinute x0.f5)
                  (some ((x0.f0 == x0.f0) && (((0 : Int) == (0 : Int)) && (((0 : Int) == (0 : Int)) && ((x0.f3.toList == ByteArray.empty.toList) && ((x0.f4.toList == ByteArray.empty.toList) && (((0 : Int) == (0 : Int)) && ((x0.f6 == (0 : Int)) && ((x0.f7 == false) && true)))))))))
                  (some (false)))
                (cond (x0.f0 == (5 : Int))
                  (some ((x0.f0 == x0.f0) && (((0 : Int) == (0 : Int)) && (((0 : Int) == (0 : Int)) && ((x0.f3.toList == ByteArray.empty.toList) && ((x0.f4.toList == ByteArray.empty.toList) && ((x0.f5 == (0 : Int)) && ((x0.f6 == (0 : Int)) && ((x0.f7 == false) && true)))))))))
                  (cond (x0.f0 == (6 : Int))
                    (cond (inRange x0.f5 (0 : Int) (1000000000 : Int))
                      (some ((x0.f0 == x0.f0) && (((0 : Int) == (0 : Int)) && (((0 : Int) == (0 : Int)) && ((x0.f3.toList == ByteArray.empty.toList) && ((x0.f4.toList == ByteArray.empty.toList) && (((0 : Int) == (0 : Int)) && ((x0.f6 == (0 : Int)) && ((x0.f7 == false) && true)))))))))
                      (some (false)))
                    (cond (x0.f0 == (7 : Int))
                      (cond (inRange x0.f5 (0 : Int) (1000000000 : Int))
                        (some ((x0.f0 == x0.f0) && (((0 : Int) == (0 : Int)) && (((0 : Int) == (0 : Int)) && ((x0.f3.toList == ByteArray.empty.toList) && ((x0.f4.toList == ByteArray.empty.toList) && (((0 : Int) == (0 : Int)) && ((x0.f6 == (0 : Int)) && ((false == false) && true)))))))))
                        (some (false)))
                      (cond (x0.f0 == (8 : Int))
                        (if x0.f3.size < 4611686018427387904 then cond (nameOk x0.f3)
                          (cond (isMinute x0.f5)
                            (cond (isMinute x0.f6)
                              (some ((x0.f0 == x0.f0) && (((0 : Int) == (0 : Int)) && (((0 : Int) == (0 : Int)) && ((ByteArray.empty.toList == ByteArray.empty.toList) && ((x0.f4.toList == ByteArray.empty.toList) && (((0 : Int) == (0 : Int)) && (((0 : Int) == (0 : Int)) && ((x0.f7 == false) && true)))))))))
                              (some (false)))
                            (some (false)))
                          (some (false)) else none)
                        (cond (x0.f0 == (9 : Int))
                          (if x0.f3.size < 4611686018427387904 then cond (nameOk x0.f3)
                            (cond (isMinute x0.f5)
                              (if x0.f4.size < 4611686018427387904 then cond (nameOk x0.f4)
                                (some ((x0.f0 == x0.f0) && (((0 : Int) == (0 : Int)) && (((0 : Int) == (0 : Int)) && ((ByteArray.empty.toList == ByteArray.empty.toList) && ((ByteArray.empty.toList == ByteArray.empty.toList) && (((0 : Int) == (0 : Int)) && ((x0.f6 == (0 : Int)) && ((x0.f7 == false) && true)))))))))
                                (some (false)) else none)
                              (some (false)))
                            (some (false)) else none)
                          (some (false)))))))))))
        (some (false)))
      (some (false))
theorem D24 (x0 : S26) : Ans (sem24 x0) (fun r => Does E 24 [.agg (S26.t x0)] [(false, [tB r])]) := by
  unfold sem24
  refine Ans.ite (fun h0 => ?_) (fun h0 => ?_)
  · refine Ans.ite (fun h1 => ?_) (fun h1 => ?_)
    · refine Ans.ite (fun h2 => ?_) (fun h2 => ?_)
      · refine Ans.ite (fun h3 => ?_) (fun h3 => ?_)
        · refine Ans.ite (fun h4 => ?_) (fun h4 => ?_)
          · exact Ans.some (L24_0 x0 h0 h1 h2 h3 h4)
          · exact Ans.some (L24_1 x0 h0 h1 h2 h3 h4)
        · exact Ans.some (L24_2 x0 h0 h1 h2 h3)
      · refine Ans.ite (fun h3 => ?_) (fun h3 => ?_)
        · refine Ans.ite (fun h4 => ?_) (fun h4 => ?_)
          · exact Ans.some (L24_3 x0 h0 h1 h2 h3 h4)
          · exact Ans.some (L24_4 x0 h0 h1 h2 h3 h4)
        · refine Ans.ite (fun h4 => ?_) (fun h4 => ?_)
          · refine Ans.pre (fun h5 => ?_)
            refine Ans.ite (fun h6 => ?_) (fun h6 => ?_)
            · exact Ans.some (L24_5 x0 h0 h1 h2 h3 h4 h5 h6)
            · exact Ans.some (L24_6 x0 h0 h1 h2 h3 h4 h5 h6)
          · refine Ans.ite (fun h5 => ?_) (fun h5 => ?_)
            · refine Ans.ite (fun h6 => ?_) (fun h6 => ?_)
              · exact Ans.some (L24_7 x0 h0 h1 h2 h3 h4 h5 h6)
              · exact Ans.some (L24_8 x0 h0 h1 h2 h3 h4 h5 h6)
            · refine Ans.ite (fun h6 => ?_) (fun h6 => ?_)
              · exact Ans.some (L24_9 x0 h0 h1 h2 h3 h4 h5 h6)
              · refine Ans.ite (fun h7 => ?_) (fun h7 => ?_)
                · refine Ans.ite (fun h8 => ?_) (fun h8 => ?_)
                  · exact Ans.some (L24_10 x0 h0 h1 h2 h3 h4 h5 h6 h7 h8)
                  · exact Ans.some (L24_11 x0 h0 h1 h2 h3 h4 h5 h6 h7 h8)
                · refine Ans.ite (fun h8 => ?_) (fun h8 => ?_)
                  · refine Ans.ite (fun h9 => ?_) (fun h9 => ?_)
                    · exact Ans.some (L24_12 x0 h0 h1 h2 h3 h4 h5 h6 h7 h8 h9)
                    · exact Ans.some (L24_13 x0 h0 h1 h2 h3 h4 h5 h6 h7 h8 h9)
                  · refine Ans.ite (fun h9 => ?_) (fun h9 => ?_)
                    · refine Ans.pre (fun h10 => ?_)
                      refine Ans.ite (fun h11 => ?_) (fun h11 => ?_)
                      · refine Ans.ite (fun h12 => ?_) (fun h12 => ?_)
                        · refine Ans.ite (fun h13 => ?_) (fun h13 => ?_)
                          · exact Ans.some (L24_14 x0 h0 h1 h2 h3 h4 h5 h6 h7 h8 h9 h10 h11 h12 h13)
                          · exact Ans.some (L24_15 x0 h0 h1 h2 h3 h4 h5 h6 h7 h8 h9 h10 h11 h12 h13)
                        · exact Ans.some (L24_16 x0 h0 h1 h2 h3 h4 h5 h6 h7 h8 h9 h10 h11 h12)
                      · exact Ans.some (L24_17 x0 h0 h1 h2 h3 h4 h5 h6 h7 h8 h9 h10 h11)
                    · refine Ans.ite (fun h10 => ?_) (fun h10 => ?_)
                      · refine Ans.pre (fun h11 => ?_)
                        refine Ans.ite (fun h12 => ?_) (fun h12 => ?_)
                        · refine Ans.ite (fun h13 => ?_) (fun h13 => ?_)
                          · refine Ans.pre (fun h14 => ?_)
                            refine Ans.ite (fun h15 => ?_) (fun h15 => ?_)
                            · exact Ans.some (L24_18 x0 h0 h1 h2 h3 h4 h5 h6 h7 h8 h9 h10 h11 h12 h13 h14 h15)
                            · exact Ans.some (L24_19 x0 h0 h1 h2 h3 h4 h5 h6 h7 h8 h9 h10 h11 h12 h13 h14 h15)
                          · exact Ans.some (L24_20 x0 h0 h1 h2 h3 h4 h5 h6 h7 h8 h9 h10 h11 h12 h13)
                        · exact Ans.some (L24_21 x0 h0 h1 h2 h3 h4 h5 h6 h7 h8 h9 h10 h11 h12)
                      · exact Ans.some (L24_22 x0 h0 h1 h2 h3 h4 h5 h6 h7 h8 h9 h10)
    · exact Ans.some (L24_23 x0 h0 h1)
  · exact Ans.some (L24_24 x0 h0)
-- function 21: loop.example/g00188/laws.szCommand
theorem L21_0 (x0 : S26) (x1 : Int) (h0 : (decide ((IntKind.wrap .i64 (x1 - (x0.f3.size : Int))) < (0 : Int))) = true) : Does E 21 [.agg (S26.t x0), .one (tI x1)] [(false, [tI (-1 : Int)])] :=
  Does.path (fn := Try.f21) [.no, .b true] [fun _ => (decide ((IntKind.wrap .i64 (x1 - (x0.f3.size : Int))) < (0 : Int))) = true] rfl rfl (fun k => by kernel_rfl) ⟨Ev.c h0, trivial⟩
theorem L21_1 (x0 : S26) (x1 : Int) (h0 : (decide ((IntKind.wrap .i64 (x1 - (x0.f3.size : Int))) < (0 : Int))) = false) (h1 : (decide ((IntKind.wrap .i64 ((IntKind.wrap .i64 (x1 - (x0.f3.size : Int))) - (x0.f4.size : Int))) < (0 : Int))) = true) : Does E 21 [.agg (S26.t x0), .one (tI x1)] [(false, [tI (-1 : Int)])] :=
  Does.path (fn := Try.f21) [.no, .b false, .no, .b true] [fun _ => (decide ((IntKind.wrap .i64 (x1 - (x0.f3.size : Int))) < (0 : Int))) = false, fun _ => (decide ((IntKind.wrap .i64 ((IntKind.wrap .i64 (x1 - (x0.f3.size : Int))) - (x0.f4.size : Int))) < (0 : Int))) = true] rfl rfl (fun k => by kernel_rfl) ⟨Ev.c h0, Ev.c h1, trivial⟩
theorem L21_2 (x0 : S26) (x1 : Int) (h0 : (decide ((IntKind.wrap .i64 (x1 - (x0.f3.size : Int))) < (0 : Int))) = false) (h1 : (decide ((IntKind.wrap .i64 ((IntKind.wrap .i64 (x1 - (x0.f3.size : Int))) - (x0.f4.size : Int))) < (0 : Int))) = false) : Does E 21 [.agg (S26.t x0), .one (tI x1)] [(false, [tI (IntKind.wrap .i64 ((IntKind.wrap .i64 (x1 - (x0.f3.size : Int))) - (x0.f4.size : Int)))])] :=
  Does.path (fn := Try.f21) [.no, .b false, .no, .b false] [fun _ => (decide ((IntKind.wrap .i64 (x1 - (x0.f3.size : Int))) < (0 : Int))) = false, fun _ => (decide ((IntKind.wrap .i64 ((IntKind.wrap .i64 (x1 - (x0.f3.size : Int))) - (x0.f4.size : Int))) < (0 : Int))) = false] rfl rfl (fun k => by kernel_rfl) ⟨Ev.c h0, Ev.c h1, trivial⟩
noncomputable def sem21 (x0 : S26) (x1 : Int) : Option (Int) :=
    cond (decide ((IntKind.wrap .i64 (x1 - (x0.f3.size : Int))) < (0 : Int)))
      (some ((-1 : Int)))
      (cond (decide ((IntKind.wrap .i64 ((IntKind.wrap .i64 (x1 - (x0.f3.size : Int))) - (x0.f4.size : Int))) < (0 : Int)))
        (some ((-1 : Int)))
        (some (IntKind.wrap .i64 ((IntKind.wrap .i64 (x1 - (x0.f3.size : Int))) - (x0.f4.size : Int)))))
theorem D21 (x0 : S26) (x1 : Int) : Ans (sem21 x0 x1) (fun r => Does E 21 [.agg (S26.t x0), .one (tI x1)] [(false, [tI r])]) := by
  unfold sem21
  refine Ans.ite (fun h0 => ?_) (fun h0 => ?_)
  · exact Ans.some (L21_0 x0 x1 h0)
  · refine Ans.ite (fun h1 => ?_) (fun h1 => ?_)
    · exact Ans.some (L21_1 x0 x1 h0 h1)
    · exact Ans.some (L21_2 x0 x1 h0 h1)
-- function 23: loop.example/g00188/laws.toCommand
theorem L23_0 (x0 : S26)  : Does E 23 [.agg (S26.t x0)] [(true, S26.t x0)] :=
  Does.path (fn := Try.f23) [] [] rfl rfl (fun k => by kernel_rfl) trivial
noncomputable def sem23 (x0 : S26) : Option (S26) :=
    some (x0)
theorem D23 (x0 : S26) : Ans (sem23 x0) (fun r => Does E 23 [.agg (S26.t x0)] [(true, S26.t r)]) := by
  unfold sem23
  exact Ans.some (L23_0 x0)
def Tot {α : Type} (o : Option α) : Prop := ∃ b, o = some b
theorem Tot.some {α : Type} (b : α) : Tot (some b) := ⟨b, rfl⟩
theorem Tot.cond {α : Type} {c : Bool} {a b : Option α} (h : Tot a) (g : Tot b) : Tot (cond c a b) := by cases c; exact g; exact h
theorem Tot.getD {α : Type} {o : Option α} (h : Tot o) (d : α) : o = Option.some (o.getD d) := by obtain ⟨b, rfl⟩ := h; rfl
theorem condCongr {α : Type} {c : Bool} {a b a' b' : α} (h : c = true → a = a') (g : c = false → b = b') : cond c a b = cond c a' b' := by
  cases c
  · exact g rfl
  · exact h rfl
noncomputable def cmdOk (x : S26) : Bool := (sem22 x).getD false
def Short (x : S26) : Prop := x.f3.size < 4611686018427387904 ∧ x.f4.size < 4611686018427387904
instance (x : S26) : Decidable (Short x) := by unfold Short; exact inferInstance
theorem sem22_ok {x : S26} (h : Short x) : sem22 x = some (cmdOk x) := by
  refine Tot.getD ?_ _
  unfold sem22
  rw [if_pos h.1, if_pos h.1, if_pos h.1, if_pos h.2]
  repeat' (first | exact Tot.some _ | apply Tot.cond)
theorem sem24_ok {x : S26} (h : Short x) : sem24 x = some (cmdOk x) := by
  rw [← sem22_ok h]
  unfold sem24 sem22
  rw [if_pos h.1, if_pos h.1, if_pos h.1, if_pos h.2, if_pos h.1, if_pos h.1, if_pos h.1, if_pos h.2]
  have key : ∀ (a b : Bool) (p q : Option Bool), cond a (cond b p q) q = cond b (cond a p q) q := by intro a b p q; cases a <;> cases b <;> rfl
  have e9 : ∀ p, (cond (nameOk x.f4) (cond (inRange x.f5 (0 : Int) (68374079 : Int)) p (some false)) (some false) : Option Bool) = cond (isMinute x.f5) (cond (nameOk x.f4) p (some false)) (some false) := fun p => key _ _ _ _
  rw [e9]
  simp only [isIndex, isMinute]
  repeat' (first | rfl | refine condCongr (fun _ => ?_) (fun _ => ?_))
  all_goals (simp only [rest, beq_self_eq_true, Bool.true_or, Bool.false_or, Bool.true_and, Bool.and_true, Option.some.injEq]; first | done | (cases x.f7 <;> simp))
theorem T22 (x : S26) (h : Short x) : Does E 22 [.agg (S26.t x)] [(false, [tB (cmdOk x)])] := D22 x _ (sem22_ok h)
theorem T24 (x : S26) (h : Short x) : Does E 24 [.agg (S26.t x)] [(false, [tB (cmdOk x)])] := D24 x _ (sem24_ok h)
noncomputable def szCmd (x : S26) (l : Int) : Int := (sem21 x l).getD 0
theorem T21 (x : S26) (l : Int) : Does E 21 [.agg (S26.t x), .one (tI l)] [(false, [tI (szCmd x l)])] := D21 x l _ (by
  refine Tot.getD ?_ _
  unfold sem21
  repeat' (first | exact Tot.some _ | apply Tot.cond))
def toCmd (x : S26) : S26 := x
theorem T23 (x : S26) : Does E 23 [.agg (S26.t x)] [(true, S26.t (toCmd x))] := D23 x _ rfl
theorem wrap_id (n : Int) (h : -9223372036854775808 ≤ n) (h' : n ≤ 9223372036854775807) : IntKind.wrap .i64 n = n := by
  simp only [IntKind.wrap, IntKind.bits, IntKind.signed]
  simp
  omega
theorem szCmd_small {x : S26} (h3 : x.f3.size ≤ 9223372036854775807) (h4 : x.f4.size ≤ 9223372036854775807) (h : decide (szCmd x (1048576 : Int) < (0 : Int)) = false) : x.f3.size ≤ 1048576 ∧ x.f4.size ≤ 1048576 := by
  unfold szCmd sem21 at h
  rw [wrap_id _ (by omega) (by omega)] at h
  by_cases h5 : (1048576 : Int) - (x.f3.size : Int) < 0
  · rw [decide_eq_true h5] at h
    simp at h
  · rw [decide_eq_false h5, wrap_id _ (by omega) (by omega)] at h
    by_cases h6 : (1048576 : Int) - (x.f3.size : Int) - (x.f4.size : Int) < 0
    · rw [decide_eq_true h6] at h
      simp at h
    · exact ⟨by omega, by omega⟩
theorem szCmd_short {x : S26} (h3 : x.f3.size ≤ 9223372036854775807) (h4 : x.f4.size ≤ 9223372036854775807) (h : decide (szCmd x (1048576 : Int) < (0 : Int)) = false) : Short x := by
  unfold szCmd sem21 at h
  rw [wrap_id _ (by omega) (by omega)] at h
  by_cases h5 : (1048576 : Int) - (x.f3.size : Int) < 0
  · rw [decide_eq_true h5] at h
    simp at h
  · rw [decide_eq_false h5, wrap_id _ (by omega) (by omega)] at h
    by_cases h6 : (1048576 : Int) - (x.f3.size : Int) - (x.f4.size : Int) < 0
    · rw [decide_eq_true h6] at h
      simp at h
    · exact ⟨by omega, by omega⟩
end Go.Proofs.Ytbphhigmepdohaa.Am
namespace Go.Proofs.Ytbphhigmepdohaa.Am
set_option linter.unusedVariables false
set_option linter.unusedSimpArgs false
open Go Go.Proofs Classical
set_option maxRecDepth 100000
set_option linter.unusedVariables false
def byteOf (n : Int) : ByteArray := strOfNums [IntKind.wrap .u8 n]
-- function 88: loop.example/g00188/spec.l17Byte
theorem L88_0 (x0 : Int)  : Does E 88 [.one (tI x0)] [(false, [tS (strOfNums ([IntKind.wrap .u8 x0]))])] :=
  Does.path (fn := Try.f88) [.val (.string (strOfNums ([IntKind.wrap .u8 x0])))] [fun _ => (numsOf (((([IntKind.wrap .u8 x0]).map etY).drop 0).take (([IntKind.wrap .u8 x0]).map etY).length)).map strOfNums = some (strOfNums ([IntKind.wrap .u8 x0]))] rfl rfl (fun k => by kernel_rfl) ⟨Ev.c (by simp only [List.take_length, List.drop_zero]; exact strMap), trivial⟩
noncomputable def sem88 (x0 : Int) : Option (ByteArray) :=
    some (strOfNums ([IntKind.wrap .u8 x0]))
theorem D88 (x0 : Int) : Ans (sem88 x0) (fun r => Does E 88 [.one (tI x0)] [(false, [tS r])]) := by
  unfold sem88
  exact Ans.some (L88_0 x0)
theorem T88 (n : Int) : Does E 88 [.one (tI n)] [(false, [tS (byteOf n)])] := D88 n _ rfl
/-- The bytes of a number but for the last, and what the last is of. -/
def varB (n : Int) : Int := IntKind.wrap .u8 (IntKind.wrap .i64 (Int.tmod n 128 + 128))
def varN (n : Int) : Int := IntKind.wrap .i64 (Int.tdiv n 128)
def varI : Nat → Int → List Int
  | 0, _ => []
  | k + 1, n => cond (decide (n > 127)) (varB n :: varI k (varN n)) []
def varE : Nat → Int → Int
  | 0, n => n
  | k + 1, n => cond (decide (n > 127)) (varE k (varN n)) n
def varOf (n : Int) : ByteArray := strOfNums (varI 9 n ++ [IntKind.wrap .u8 (varE 9 n)])
theorem varI_len : ∀ (k : Nat) (n : Int), (varI k n).length ≤ k
  | 0, _ => Nat.le_refl _
  | k + 1, n => by
    unfold varI
    cases decide (n > 127)
    · simp
    · have := varI_len k (varN n)
      simp; omega
theorem varOf_size (n : Int) : (varOf n).size ≤ 10 := by
  unfold varOf
  rw [strOfNums_size, List.length_append]
  have := varI_len 9 n
  simp; omega
theorem varN_eq {n : Int} (h : 127 < n) (h2 : n ≤ 9223372036854775807) : varN n = n / 128 := by
  unfold varN
  rw [Int.tdiv_eq_ediv_of_nonneg (by omega), wrap_id _ (by omega) (by omega)]
theorem pow_step {n : Int} {k : Nat} (h : n < 128 ^ (k + 1 + 1)) : n / 128 < 128 ^ (k + 1) := by
  have e : (128 : Int) ^ (k + 1 + 1) = 128 ^ (k + 1) * 128 := Int.pow_succ ..
  rw [e] at h
  omega
-- function 89: loop.example/g00188/spec.l01Var
inductive X89_0 where
  | x0 (v0 : Int) (v3 : List Int)
noncomputable def loop89_0 : Nat → Int → (List Int) → Option X89_0
  | 0, _, _ => none
  | n + 1, v0, v3 => cond (decide (v0 > (127 : Int)))
    (if (v3.length + ([IntKind.wrap .u8 (IntKind.wrap .i64 ((Int.tmod v0 (128 : Int)) + (128 : Int)))]).length) * 1 ≤ 140737488355328 ∧ v3.length + ([IntKind.wrap .u8 (IntKind.wrap .i64 ((Int.tmod v0 (128 : Int)) + (128 : Int)))]).length ≤ 4611686018427387904 then loop89_0 n (IntKind.wrap .i64 (Int.tdiv v0 (128 : Int))) (v3 ++ ([IntKind.wrap .u8 (IntKind.wrap .i64 ((Int.tmod v0 (128 : Int)) + (128 : Int)))])) else none)
    (some (.x0 v0 v3))
def Q89_0 (v0 : Int) (v3 : List Int) : X89_0 → Prop
  | .x0 zv0 zv3 => Loops E 89 (lpAt Try.f89 0) (stL 22 [(0, .one (tI v0)), (3, .one (.s .own () 1 (v3.map etY)))]) (.exit 0) (stL 22 [(0, .one (tI zv0)), (3, .one (.s .own () 1 (zv3.map etY)))])
theorem R89_0_0 (v0 : Int) (v3 : List Int) (h0 : (decide (v0 > (127 : Int))) = true) (h1 : (v3.length + ([IntKind.wrap .u8 (IntKind.wrap .i64 ((Int.tmod v0 (128 : Int)) + (128 : Int)))]).length) * 1 ≤ 140737488355328 ∧ v3.length + ([IntKind.wrap .u8 (IntKind.wrap .i64 ((Int.tmod v0 (128 : Int)) + (128 : Int)))]).length ≤ 4611686018427387904) : Round E 89 (lpAt Try.f89 0) (stL 22 [(0, .one (tI v0)), (3, .one (.s .own () 1 (v3.map etY)))]) .normal (stL 22 [(0, .one (tI (IntKind.wrap .i64 (Int.tdiv v0 (128 : Int))))), (3, .one (.s .own () 1 ((v3 ++ ([IntKind.wrap .u8 (IntKind.wrap .i64 ((Int.tmod v0 (128 : Int)) + (128 : Int)))])).map etY)))]) :=
  Round.path [.b true, .rows ((v3 ++ ([IntKind.wrap .u8 (IntKind.wrap .i64 ((Int.tmod v0 (128 : Int)) + (128 : Int)))])).map etY)] [fun _ => (decide (v0 > (127 : Int))) = true, fun _ => (((([IntKind.wrap .u8 (IntKind.wrap .i64 ((Int.tmod v0 (128 : Int)) + (128 : Int)))]).map etY).drop 0).take (([IntKind.wrap .u8 (IntKind.wrap .i64 ((Int.tmod v0 (128 : Int)) + (128 : Int)))]).map etY).length).all (fun r => r.all T.flat) = true ∧ ((v3.map etY).length + (((([IntKind.wrap .u8 (IntKind.wrap .i64 ((Int.tmod v0 (128 : Int)) + (128 : Int)))]).map etY).drop 0).take (([IntKind.wrap .u8 (IntKind.wrap .i64 ((Int.tmod v0 (128 : Int)) + (128 : Int)))]).map etY).length).length) * 1 ≤ 140737488355328 ∧ (v3.map etY).length + (((([IntKind.wrap .u8 (IntKind.wrap .i64 ((Int.tmod v0 (128 : Int)) + (128 : Int)))]).map etY).drop 0).take (([IntKind.wrap .u8 (IntKind.wrap .i64 ((Int.tmod v0 (128 : Int)) + (128 : Int)))]).map etY).length).length ≤ 4611686018427387904, fun _ => (v3.map etY) ++ (((([IntKind.wrap .u8 (IntKind.wrap .i64 ((Int.tmod v0 (128 : Int)) + (128 : Int)))]).map etY).drop 0).take (([IntKind.wrap .u8 (IntKind.wrap .i64 ((Int.tmod v0 (128 : Int)) + (128 : Int)))]).map etY).length) = (v3 ++ ([IntKind.wrap .u8 (IntKind.wrap .i64 ((Int.tmod v0 (128 : Int)) + (128 : Int)))])).map etY] (fun k => by kernel_rfl) ⟨Ev.c h0, Ev.c (by simp only [List.take_length, List.drop_zero]; exact appOk (fun x => rfl) h1), Ev.c (by simp only [List.take_length, List.drop_zero]; exact appMap), trivial⟩
theorem R89_0_1 (v0 : Int) (v3 : List Int) (h0 : (decide (v0 > (127 : Int))) = false) : Round E 89 (lpAt Try.f89 0) (stL 22 [(0, .one (tI v0)), (3, .one (.s .own () 1 (v3.map etY)))]) (.exit 0) (stL 22 [(0, .one (tI v0)), (3, .one (.s .own () 1 (v3.map etY)))]) :=
  Round.path [.b false] [fun _ => (decide (v0 > (127 : Int))) = false] (fun k => by kernel_rfl) ⟨Ev.c h0, trivial⟩
theorem L89_0 (n : Nat) : ∀ (v0 : Int) (v3 : List Int), Ans (loop89_0 n v0 v3) (Q89_0 v0 v3) := by
  induction n with
  | zero => intros; exact Ans.none
  | succ n ih =>
    intro v0 v3
    unfold loop89_0
    refine Ans.ite (fun h0 => ?_) (fun h0 => ?_)
    · refine Ans.pre (fun h1 => ?_)
      exact (ih (IntKind.wrap .i64 (Int.tdiv v0 (128 : Int))) (v3 ++ ([IntKind.wrap .u8 (IntKind.wrap .i64 ((Int.tmod v0 (128 : Int)) + (128 : Int)))]))).mono fun y hy => by cases y <;> exact Loops.next (R89_0_0 v0 v3 h0 h1) hy
    · exact Ans.some (Loops.stop (R89_0_1 v0 v3 h0) (by intro h; cases h))
theorem P89_0 (x0 : Int) (w0_0 : Int) (w0_3 : List Int) (h0 : Loops E 89 (lpAt Try.f89 0) (stL 22 [(0, .one (tI x0)), (3, .one (.s .own () 1 (([] : List Int).map etY)))]) (.exit 0) (stL 22 [(0, .one (tI w0_0)), (3, .one (.s .own () 1 (w0_3.map etY)))])) (h1 : (w0_3.length + ([IntKind.wrap .u8 w0_0]).length) * 1 ≤ 140737488355328 ∧ w0_3.length + ([IntKind.wrap .u8 w0_0]).length ≤ 4611686018427387904) : Does E 89 [.one (tI x0)] [(false, [tS (strOfNums (w0_3 ++ ([IntKind.wrap .u8 w0_0])))])] :=
  Does.path (fn := Try.f89) [.lp (.exit 0) (stL 22 [(0, .one (tI w0_0)), (3, .one (.s .own () 1 (w0_3.map etY)))]), .rows ((w0_3 ++ ([IntKind.wrap .u8 w0_0])).map etY), .val (.string (strOfNums (w0_3 ++ ([IntKind.wrap .u8 w0_0]))))] [fun k => LoopK E 89 (lpAt Try.f89 0) (stL 22 [(0, .one (tI x0)), (3, .one (.s .own () 1 (([] : List Int).map etY)))]) (.exit 0) (stL 22 [(0, .one (tI w0_0)), (3, .one (.s .own () 1 (w0_3.map etY)))]) k k, fun _ => (((([IntKind.wrap .u8 w0_0]).map etY).drop 0).take (([IntKind.wrap .u8 w0_0]).map etY).length).all (fun r => r.all T.flat) = true ∧ ((w0_3.map etY).length + (((([IntKind.wrap .u8 w0_0]).map etY).drop 0).take (([IntKind.wrap .u8 w0_0]).map etY).length).length) * 1 ≤ 140737488355328 ∧ (w0_3.map etY).length + (((([IntKind.wrap .u8 w0_0]).map etY).drop 0).take (([IntKind.wrap .u8 w0_0]).map etY).length).length ≤ 4611686018427387904, fun _ => (w0_3.map etY) ++ (((([IntKind.wrap .u8 w0_0]).map etY).drop 0).take (([IntKind.wrap .u8 w0_0]).map etY).length) = (w0_3 ++ ([IntKind.wrap .u8 w0_0])).map etY, fun _ => (numsOf ((((w0_3 ++ ([IntKind.wrap .u8 w0_0])).map etY).drop 0).take ((w0_3 ++ ([IntKind.wrap .u8 w0_0])).map etY).length)).map strOfNums = some (strOfNums (w0_3 ++ ([IntKind.wrap .u8 w0_0])))] rfl rfl (fun k => by kernel_rfl) ⟨Loops.ev h0, Ev.c (by simp only [List.take_length, List.drop_zero]; exact appOk (fun x => rfl) h1), Ev.c (by simp only [List.take_length, List.drop_zero]; exact appMap), Ev.c (by simp only [List.take_length, List.drop_zero]; exact strMap), trivial⟩
noncomputable def sem89 (n : Nat) (x0 : Int) : Option (ByteArray) :=
    (loop89_0 n x0 ([])).bind fun y => match y with
      | .x0 w0_0 w0_3 => (if (w0_3.length + ([IntKind.wrap .u8 w0_0]).length) * 1 ≤ 140737488355328 ∧ w0_3.length + ([IntKind.wrap .u8 w0_0]).length ≤ 4611686018427387904 then some (strOfNums (w0_3 ++ ([IntKind.wrap .u8 w0_0]))) else none)
theorem D89 (n : Nat) (x0 : Int) : Ans (sem89 n x0) (fun r => Does E 89 [.one (tI x0)] [(false, [tS r])]) := by
  unfold sem89
  refine Ans.bind (fun y hy => ?_)
  replace hy := L89_0 n x0 ([]) y hy
  cases y with
  | x0 w0_0 w0_3 =>
    have h0 := hy
    refine Ans.pre (fun h1 => ?_)
    exact Ans.some (P89_0 x0 w0_0 w0_3 h0 h1)
theorem loop89_ok : ∀ (k m : Nat) (n : Int) (acc : List Int), n < 128 ^ (k + 1) → n ≤ 9223372036854775807 → k < m → acc.length + k ≤ 1000 → loop89_0 m n acc = some (.x0 (varE k n) (acc ++ varI k n))
  | 0, m, n, acc, h, h2, hm, ha => by
    obtain ⟨m, rfl⟩ : ∃ j, m = j + 1 := ⟨m - 1, by omega⟩
    simp only [loop89_0, varE, varI]
    rw [show decide (n > (127 : Int)) = false from decide_eq_false (by simp at h; omega), List.append_nil]
    rfl
  | k + 1, m, n, acc, h, h2, hm, ha => by
    obtain ⟨m, rfl⟩ : ∃ j, m = j + 1 := ⟨m - 1, by omega⟩
    simp only [loop89_0, varE, varI]
    by_cases hn : n > 127
    · rw [decide_eq_true hn]
      simp only [cond_true]
      rw [if_pos (by constructor <;> simp <;> omega)]
      have e : IntKind.wrap .i64 (Int.tdiv n (128 : Int)) = varN n := rfl
      have hb : IntKind.wrap .u8 (IntKind.wrap .i64 ((Int.tmod n (128 : Int)) + (128 : Int))) = varB n := by rfl
      rw [e, hb]
      have hv := varN_eq hn h2
      rw [loop89_ok k m (varN n) (acc ++ [varB n]) (by rw [hv]; exact pow_step h) (by rw [hv]; omega) (by omega) (by simp; omega)]
      simp
    · rw [decide_eq_false hn, cond_false, cond_false, cond_false, List.append_nil]
theorem T89 (n : Int) (h : n ≤ 9223372036854775807) : Does E 89 [.one (tI n)] [(false, [tS (varOf n)])] := D89 10 n _ (by
  unfold sem89 varOf
  rw [loop89_ok 9 10 n [] (by have : (128 : Int) ^ (9 + 1) = 1180591620717411303424 := by decide
                              omega) h (by omega) (by simp)]
  simp only [Option.bind_some, List.nil_append]
  have := varI_len 9 n
  exact if_pos (by constructor <;> simp <;> omega))
-- function 93: loop.example/g00188/impl.varText
inductive X93_0 where
  | x0 (v0 : Int) (v3 : List Int)
noncomputable def loop93_0 : Nat → Int → (List Int) → Option X93_0
  | 0, _, _ => none
  | n + 1, v0, v3 => cond (decide (v0 > (127 : Int)))
    (if (v3.length + ([IntKind.wrap .u8 (IntKind.wrap .i64 ((128 : Int) + (Int.tmod v0 (128 : Int))))]).length) * 1 ≤ 140737488355328 ∧ v3.length + ([IntKind.wrap .u8 (IntKind.wrap .i64 ((128 : Int) + (Int.tmod v0 (128 : Int))))]).length ≤ 4611686018427387904 then loop93_0 n (IntKind.wrap .i64 (Int.tdiv v0 (128 : Int))) (v3 ++ ([IntKind.wrap .u8 (IntKind.wrap .i64 ((128 : Int) + (Int.tmod v0 (128 : Int))))])) else none)
    (some (.x0 v0 v3))
def Q93_0 (v0 : Int) (v3 : List Int) : X93_0 → Prop
  | .x0 zv0 zv3 => Loops E 93 (lpAt Try.f93 0) (stL 21 [(0, .one (tI v0)), (3, .one (.s .own () 1 (v3.map etY)))]) (.exit 0) (stL 21 [(0, .one (tI zv0)), (3, .one (.s .own () 1 (zv3.map etY)))])
theorem R93_0_0 (v0 : Int) (v3 : List Int) (h0 : (decide (v0 > (127 : Int))) = true) (h1 : (v3.length + ([IntKind.wrap .u8 (IntKind.wrap .i64 ((128 : Int) + (Int.tmod v0 (128 : Int))))]).length) * 1 ≤ 140737488355328 ∧ v3.length + ([IntKind.wrap .u8 (IntKind.wrap .i64 ((128 : Int) + (Int.tmod v0 (128 : Int))))]).length ≤ 4611686018427387904) : Round E 93 (lpAt Try.f93 0) (stL 21 [(0, .one (tI v0)), (3, .one (.s .own () 1 (v3.map etY)))]) .normal (stL 21 [(0, .one (tI (IntKind.wrap .i64 (Int.tdiv v0 (128 : Int))))), (3, .one (.s .own () 1 ((v3 ++ ([IntKind.wrap .u8 (IntKind.wrap .i64 ((128 : Int) + (Int.tmod v0 (128 : Int))))])).map etY)))]) :=
  Round.path [.b true, .rows ((v3 ++ ([IntKind.wrap .u8 (IntKind.wrap .i64 ((128 : Int) + (Int.tmod v0 (128 : Int))))])).map etY)] [fun _ => (decide (v0 > (127 : Int))) = true, fun _ => (((([IntKind.wrap .u8 (IntKind.wrap .i64 ((128 : Int) + (Int.tmod v0 (128 : Int))))]).map etY).drop 0).take (([IntKind.wrap .u8 (IntKind.wrap .i64 ((128 : Int) + (Int.tmod v0 (128 : Int))))]).map etY).length).all (fun r => r.all T.flat) = true ∧ ((v3.map etY).length + (((([IntKind.wrap .u8 (IntKind.wrap .i64 ((128 : Int) + (Int.tmod v0 (128 : Int))))]).map etY).drop 0).take (([IntKind.wrap .u8 (IntKind.wrap .i64 ((128 : Int) + (Int.tmod v0 (128 : Int))))]).map etY).length).length) * 1 ≤ 140737488355328 ∧ (v3.map etY).length + (((([IntKind.wrap .u8 (IntKind.wrap .i64 ((128 : Int) + (Int.tmod v0 (128 : Int))))]).map etY).drop 0).take (([IntKind.wrap .u8 (IntKind.wrap .i64 ((128 : Int) + (Int.tmod v0 (128 : Int))))]).map etY).length).length ≤ 4611686018427387904, fun _ => (v3.map etY) ++ (((([IntKind.wrap .u8 (IntKind.wrap .i64 ((128 : Int) + (Int.tmod v0 (128 : Int))))]).map etY).drop 0).take (([IntKind.wrap .u8 (IntKind.wrap .i64 ((128 : Int) + (Int.tmod v0 (128 : Int))))]).map etY).length) = (v3 ++ ([IntKind.wrap .u8 (IntKind.wrap .i64 ((128 : Int) + (Int.tmod v0 (128 : Int))))])).map etY] (fun k => by kernel_rfl) ⟨Ev.c h0, Ev.c (by simp only [List.take_length, List.drop_zero]; exact appOk (fun x => rfl) h1), Ev.c (by simp only [List.take_length, List.drop_zero]; exact appMap), trivial⟩
theorem R93_0_1 (v0 : Int) (v3 : List Int) (h0 : (decide (v0 > (127 : Int))) = false) : Round E 93 (lpAt Try.f93 0) (stL 21 [(0, .one (tI v0)), (3, .one (.s .own () 1 (v3.map etY)))]) (.exit 0) (stL 21 [(0, .one (tI v0)), (3, .one (.s .own () 1 (v3.map etY)))]) :=
  Round.path [.b false] [fun _ => (decide (v0 > (127 : Int))) = false] (fun k => by kernel_rfl) ⟨Ev.c h0, trivial⟩
theorem L93_0 (n : Nat) : ∀ (v0 : Int) (v3 : List Int), Ans (loop93_0 n v0 v3) (Q93_0 v0 v3) := by
  induction n with
  | zero => intros; exact Ans.none
  | succ n ih =>
    intro v0 v3
    unfold loop93_0
    refine Ans.ite (fun h0 => ?_) (fun h0 => ?_)
    · refine Ans.pre (fun h1 => ?_)
      exact (ih (IntKind.wrap .i64 (Int.tdiv v0 (128 : Int))) (v3 ++ ([IntKind.wrap .u8 (IntKind.wrap .i64 ((128 : Int) + (Int.tmod v0 (128 : Int))))]))).mono fun y hy => by cases y <;> exact Loops.next (R93_0_0 v0 v3 h0 h1) hy
    · exact Ans.some (Loops.stop (R93_0_1 v0 v3 h0) (by intro h; cases h))
theorem P93_0 (x0 : Int) (w0_0 : Int) (w0_3 : List Int) (h0 : Loops E 93 (lpAt Try.f93 0) (stL 21 [(0, .one (tI x0)), (3, .one (.s .own () 1 (([] : List Int).map etY)))]) (.exit 0) (stL 21 [(0, .one (tI w0_0)), (3, .one (.s .own () 1 (w0_3.map etY)))])) (h1 : (w0_3.length + ([IntKind.wrap .u8 w0_0]).length) * 1 ≤ 140737488355328 ∧ w0_3.length + ([IntKind.wrap .u8 w0_0]).length ≤ 4611686018427387904) : Does E 93 [.one (tI x0)] [(false, [tS (strOfNums (w0_3 ++ ([IntKind.wrap .u8 w0_0])))])] :=
  Does.path (fn := Try.f93) [.lp (.exit 0) (stL 21 [(0, .one (tI w0_0)), (3, .one (.s .own () 1 (w0_3.map etY)))]), .rows ((w0_3 ++ ([IntKind.wrap .u8 w0_0])).map etY), .val (.string (strOfNums (w0_3 ++ ([IntKind.wrap .u8 w0_0]))))] [fun k => LoopK E 93 (lpAt Try.f93 0) (stL 21 [(0, .one (tI x0)), (3, .one (.s .own () 1 (([] : List Int).map etY)))]) (.exit 0) (stL 21 [(0, .one (tI w0_0)), (3, .one (.s .own () 1 (w0_3.map etY)))]) k k, fun _ => (((([IntKind.wrap .u8 w0_0]).map etY).drop 0).take (([IntKind.wrap .u8 w0_0]).map etY).length).all (fun r => r.all T.flat) = true ∧ ((w0_3.map etY).length + (((([IntKind.wrap .u8 w0_0]).map etY).drop 0).take (([IntKind.wrap .u8 w0_0]).map etY).length).length) * 1 ≤ 140737488355328 ∧ (w0_3.map etY).length + (((([IntKind.wrap .u8 w0_0]).map etY).drop 0).take (([IntKind.wrap .u8 w0_0]).map etY).length).length ≤ 4611686018427387904, fun _ => (w0_3.map etY) ++ (((([IntKind.wrap .u8 w0_0]).map etY).drop 0).take (([IntKind.wrap .u8 w0_0]).map etY).length) = (w0_3 ++ ([IntKind.wrap .u8 w0_0])).map etY, fun _ => (numsOf ((((w0_3 ++ ([IntKind.wrap .u8 w0_0])).map etY).drop 0).take ((w0_3 ++ ([IntKind.wrap .u8 w0_0])).map etY).length)).map strOfNums = some (strOfNums (w0_3 ++ ([IntKind.wrap .u8 w0_0])))] rfl rfl (fun k => by kernel_rfl) ⟨Loops.ev h0, Ev.c (by simp only [List.take_length, List.drop_zero]; exact appOk (fun x => rfl) h1), Ev.c (by simp only [List.take_length, List.drop_zero]; exact appMap), Ev.c (by simp only [List.take_length, List.drop_zero]; exact strMap), trivial⟩
noncomputable def sem93 (n : Nat) (x0 : Int) : Option (ByteArray) :=
    (loop93_0 n x0 ([])).bind fun y => match y with
      | .x0 w0_0 w0_3 => (if (w0_3.length + ([IntKind.wrap .u8 w0_0]).length) * 1 ≤ 140737488355328 ∧ w0_3.length + ([IntKind.wrap .u8 w0_0]).length ≤ 4611686018427387904 then some (strOfNums (w0_3 ++ ([IntKind.wrap .u8 w0_0]))) else none)
theorem D93 (n : Nat) (x0 : Int) : Ans (sem93 n x0) (fun r => Does E 93 [.one (tI x0)] [(false, [tS r])]) := by
  unfold sem93
  refine Ans.bind (fun y hy => ?_)
  replace hy := L93_0 n x0 ([]) y hy
  cases y with
  | x0 w0_0 w0_3 =>
    have h0 := hy
    refine Ans.pre (fun h1 => ?_)
    exact Ans.some (P93_0 x0 w0_0 w0_3 h0 h1)
theorem loop93_ok : ∀ (k m : Nat) (n : Int) (acc : List Int), n < 128 ^ (k + 1) → n ≤ 9223372036854775807 → k < m → acc.length + k ≤ 1000 → loop93_0 m n acc = some (.x0 (varE k n) (acc ++ varI k n))
  | 0, m, n, acc, h, h2, hm, ha => by
    obtain ⟨m, rfl⟩ : ∃ j, m = j + 1 := ⟨m - 1, by omega⟩
    simp only [loop93_0, varE, varI]
    rw [show decide (n > (127 : Int)) = false from decide_eq_false (by simp at h; omega), List.append_nil]
    rfl
  | k + 1, m, n, acc, h, h2, hm, ha => by
    obtain ⟨m, rfl⟩ : ∃ j, m = j + 1 := ⟨m - 1, by omega⟩
    simp only [loop93_0, varE, varI]
    by_cases hn : n > 127
    · rw [decide_eq_true hn]
      simp only [cond_true]
      rw [if_pos (by constructor <;> simp <;> omega)]
      have e : IntKind.wrap .i64 (Int.tdiv n (128 : Int)) = varN n := rfl
      have hb : IntKind.wrap .u8 (IntKind.wrap .i64 ((128 : Int) + (Int.tmod n (128 : Int)))) = varB n := by unfold varB; rw [Int.add_comm]
      rw [e, hb]
      have hv := varN_eq hn h2
      rw [loop93_ok k m (varN n) (acc ++ [varB n]) (by rw [hv]; exact pow_step h) (by rw [hv]; omega) (by omega) (by simp; omega)]
      simp
    · rw [decide_eq_false hn, cond_false, cond_false, cond_false, List.append_nil]
theorem T93 (n : Int) (h : n ≤ 9223372036854775807) : Does E 93 [.one (tI n)] [(false, [tS (varOf n)])] := D93 10 n _ (by
  unfold sem93 varOf
  rw [loop93_ok 9 10 n [] (by have : (128 : Int) ^ (9 + 1) = 1180591620717411303424 := by decide
                              omega) h (by omega) (by simp)]
  simp only [Option.bind_some, List.nil_append]
  have := varI_len 9 n
  exact if_pos (by constructor <;> simp <;> omega))
-- function 90: loop.example/g00188/spec.l17Short
theorem L90_0 (x0 : ByteArray) (h0 : (x0.size : Int) ≤ 9223372036854775807) (h1 : (varOf (x0.size : Int)).size + x0.size ≤ maxStr) : Does E 90 [.one (tS x0)] [(false, [tS ((varOf (x0.size : Int)) ++ x0)])] :=
  Does.path (fn := Try.f90) [.ret [(false, [tS (varOf (x0.size : Int))])], .val (.string ((varOf (x0.size : Int)) ++ x0))] [fun k => E.C k 89 [.one (tI (x0.size : Int))] = some [(false, [tS (varOf (x0.size : Int))])], fun _ => binV E.tab .add 9 (.string (varOf (x0.size : Int))) (.string x0) = some (.string ((varOf (x0.size : Int)) ++ x0))] rfl rfl (fun k => by kernel_rfl) ⟨T89 (x0.size : Int) h0, Ev.c (strAdd h1), trivial⟩
noncomputable def sem90 (x0 : ByteArray) : Option (ByteArray) :=
    if (x0.size : Int) ≤ 9223372036854775807 then if (varOf (x0.size : Int)).size + x0.size ≤ maxStr then some ((varOf (x0.size : Int)) ++ x0) else none else none
theorem D90 (x0 : ByteArray) : Ans (sem90 x0) (fun r => Does E 90 [.one (tS x0)] [(false, [tS r])]) := by
  unfold sem90
  refine Ans.pre (fun h0 => ?_)
  refine Ans.pre (fun h1 => ?_)
  exact Ans.some (L90_0 x0 h0 h1)
def shortOf (s : ByteArray) : ByteArray := varOf (s.size : Int) ++ s
theorem shortOf_size (s : ByteArray) : (shortOf s).size ≤ 10 + s.size := by
  unfold shortOf
  rw [ByteArray.size_append]
  have := varOf_size (s.size : Int)
  omega
theorem T90 (s : ByteArray) (h : s.size ≤ 1048576) : Does E 90 [.one (tS s)] [(false, [tS (shortOf s)])] := D90 s _ (by
  unfold sem90
  have := varOf_size (s.size : Int)
  rw [if_pos (by omega), if_pos (by simp only [maxStr]; omega)]
  rfl)
-- function 94: loop.example/g00188/impl.shortText
theorem L94_0 (x0 : ByteArray) (h0 : (x0.size : Int) ≤ 9223372036854775807) (h1 : (varOf (x0.size : Int)).size + x0.size ≤ maxStr) : Does E 94 [.one (tS x0)] [(false, [tS ((varOf (x0.size : Int)) ++ x0)])] :=
  Does.path (fn := Try.f94) [.ret [(false, [tS (varOf (x0.size : Int))])], .val (.string ((varOf (x0.size : Int)) ++ x0))] [fun k => E.C k 93 [.one (tI (x0.size : Int))] = some [(false, [tS (varOf (x0.size : Int))])], fun _ => binV E.tab .add 9 (.string (varOf (x0.size : Int))) (.string x0) = some (.string ((varOf (x0.size : Int)) ++ x0))] rfl rfl (fun k => by kernel_rfl) ⟨T93 (x0.size : Int) h0, Ev.c (strAdd h1), trivial⟩
noncomputable def sem94 (x0 : ByteArray) : Option (ByteArray) :=
    if (x0.size : Int) ≤ 9223372036854775807 then if (varOf (x0.size : Int)).size + x0.size ≤ maxStr then some ((varOf (x0.size : Int)) ++ x0) else none else none
theorem D94 (x0 : ByteArray) : Ans (sem94 x0) (fun r => Does E 94 [.one (tS x0)] [(false, [tS r])]) := by
  unfold sem94
  refine Ans.pre (fun h0 => ?_)
  refine Ans.pre (fun h1 => ?_)
  exact Ans.some (L94_0 x0 h0 h1)
theorem T94 (s : ByteArray) (h : s.size ≤ 1048576) : Does E 94 [.one (tS s)] [(false, [tS (shortOf s)])] := D94 s _ (by
  unfold sem94
  have := varOf_size (s.size : Int)
  rw [if_pos (by omega), if_pos (by simp only [maxStr]; omega)]
  rfl)
-- function 91: loop.example/g00188/spec.l17Flag
theorem L91_0   : Does E 91 [.one (tB true)] [(false, [tS (⟨#[1]⟩)])] :=
  Does.path (fn := Try.f91) [] [] rfl rfl (fun k => by kernel_rfl) trivial
theorem L91_1   : Does E 91 [.one (tB false)] [(false, [tS (⟨#[0]⟩)])] :=
  Does.path (fn := Try.f91) [] [] rfl rfl (fun k => by kernel_rfl) trivial
noncomputable def sem91 (x0 : Bool) : Option (ByteArray) :=
    match x0 with
      | true => some (⟨#[1]⟩)
      | false => some (⟨#[0]⟩)
theorem D91 (x0 : Bool) : Ans (sem91 x0) (fun r => Does E 91 [.one (tB x0)] [(false, [tS r])]) := by
  unfold sem91
  cases x0 with
  | true =>
    exact Ans.some (L91_0)
  | false =>
    exact Ans.some (L91_1)
def flagOf (b : Bool) : ByteArray := match b with | true => ⟨#[1]⟩ | false => ⟨#[0]⟩
theorem flagOf_size (b : Bool) : (flagOf b).size ≤ 1 := by cases b <;> decide
theorem T91 (b : Bool) : Does E 91 [.one (tB b)] [(false, [tS (flagOf b)])] := D91 b _ (by cases b <;> rfl)
-- function 95: loop.example/g00188/impl.flagText
theorem L95_0   : Does E 95 [.one (tB true)] [(false, [tS (⟨#[1]⟩)])] :=
  Does.path (fn := Try.f95) [] [] rfl rfl (fun k => by kernel_rfl) trivial
theorem L95_1   : Does E 95 [.one (tB false)] [(false, [tS (⟨#[0]⟩)])] :=
  Does.path (fn := Try.f95) [] [] rfl rfl (fun k => by kernel_rfl) trivial
noncomputable def sem95 (x0 : Bool) : Option (ByteArray) :=
    match x0 with
      | true => some (⟨#[1]⟩)
      | false => some (⟨#[0]⟩)
theorem D95 (x0 : Bool) : Ans (sem95 x0) (fun r => Does E 95 [.one (tB x0)] [(false, [tS r])]) := by
  unfold sem95
  cases x0 with
  | true =>
    exact Ans.some (L95_0)
  | false =>
    exact Ans.some (L95_1)
theorem T95 (b : Bool) : Does E 95 [.one (tB b)] [(false, [tS (flagOf b)])] := D95 b _ (by cases b <;> rfl)
-- function 92: loop.example/g00188/impl.octets
inductive X92_0 where
  | x0 (v3 : List Int)
noncomputable def loop92_0 : Nat → (List Int) → (List Int) → Int → Int → Option X92_0
  | 0, _, _, _, _ => none
  | n + 1, v3, v6, v7, v8 => cond (decide (v8 < v7))
    ((getI v6 v8).bind fun g0 => if (v3.length + ([IntKind.wrap .u8 g0]).length) * 1 ≤ 140737488355328 ∧ v3.length + ([IntKind.wrap .u8 g0]).length ≤ 4611686018427387904 then loop92_0 n (v3 ++ ([IntKind.wrap .u8 g0])) v6 v7 (IntKind.wrap .i64 (v8 + (1 : Int))) else none)
    (some (.x0 v3))
def Q92_0 (v3 : List Int) (v6 : List Int) (v7 : Int) (v8 : Int) : X92_0 → Prop
  | .x0 zv3 => Loops E 92 (lpAt Try.f92 0) (stL 20 [(3, .one (.s .own () 1 (v3.map etY))), (6, .one (.s .far () 1 (v6.map etI))), (7, .one (tI v7)), (8, .one (tI v8))]) (.exit 0) (stL 20 [(3, .one (.s .own () 1 (zv3.map etY)))])
theorem R92_0_0 (v3 : List Int) (v6 : List Int) (v7 : Int) (v8 : Int) (g0 : Int) (h0 : (decide (v8 < v7)) = true) (h1 : getI v6 v8 = some g0) (h2 : (v3.length + ([IntKind.wrap .u8 g0]).length) * 1 ≤ 140737488355328 ∧ v3.length + ([IntKind.wrap .u8 g0]).length ≤ 4611686018427387904) : Round E 92 (lpAt Try.f92 0) (stL 20 [(3, .one (.s .own () 1 (v3.map etY))), (6, .one (.s .far () 1 (v6.map etI))), (7, .one (tI v7)), (8, .one (tI v8))]) .normal (stL 20 [(3, .one (.s .own () 1 ((v3 ++ ([IntKind.wrap .u8 g0])).map etY))), (6, .one (.s .far () 1 (v6.map etI))), (7, .one (tI v7)), (8, .one (tI (IntKind.wrap .i64 (v8 + (1 : Int)))))]) :=
  Round.path [.b true, .row (etI g0), .rows ((v3 ++ ([IntKind.wrap .u8 g0])).map etY)] [fun _ => (decide (v8 < v7)) = true, fun _ => 0 ≤ v8 ∧ (v6.map etI)[v8.toNat]? = some (etI g0), fun _ => (((([IntKind.wrap .u8 g0]).map etY).drop 0).take (([IntKind.wrap .u8 g0]).map etY).length).all (fun r => r.all T.flat) = true ∧ ((v3.map etY).length + (((([IntKind.wrap .u8 g0]).map etY).drop 0).take (([IntKind.wrap .u8 g0]).map etY).length).length) * 1 ≤ 140737488355328 ∧ (v3.map etY).length + (((([IntKind.wrap .u8 g0]).map etY).drop 0).take (([IntKind.wrap .u8 g0]).map etY).length).length ≤ 4611686018427387904, fun _ => (v3.map etY) ++ (((([IntKind.wrap .u8 g0]).map etY).drop 0).take (([IntKind.wrap .u8 g0]).map etY).length) = (v3 ++ ([IntKind.wrap .u8 g0])).map etY] (fun k => by kernel_rfl) ⟨Ev.c h0, Ev.c (getRow h1), Ev.c (by simp only [List.take_length, List.drop_zero]; exact appOk (fun x => rfl) h2), Ev.c (by simp only [List.take_length, List.drop_zero]; exact appMap), trivial⟩
theorem R92_0_1 (v3 : List Int) (v6 : List Int) (v7 : Int) (v8 : Int) (h0 : (decide (v8 < v7)) = false) : Round E 92 (lpAt Try.f92 0) (stL 20 [(3, .one (.s .own () 1 (v3.map etY))), (6, .one (.s .far () 1 (v6.map etI))), (7, .one (tI v7)), (8, .one (tI v8))]) (.exit 0) (stL 20 [(3, .one (.s .own () 1 (v3.map etY)))]) :=
  Round.path [.b false] [fun _ => (decide (v8 < v7)) = false] (fun k => by kernel_rfl) ⟨Ev.c h0, trivial⟩
theorem L92_0 (n : Nat) : ∀ (v3 : List Int) (v6 : List Int) (v7 : Int) (v8 : Int), Ans (loop92_0 n v3 v6 v7 v8) (Q92_0 v3 v6 v7 v8) := by
  induction n with
  | zero => intros; exact Ans.none
  | succ n ih =>
    intro v3 v6 v7 v8
    unfold loop92_0
    refine Ans.ite (fun h0 => ?_) (fun h0 => ?_)
    · refine Ans.bind (fun g0 h1 => ?_)
      refine Ans.pre (fun h2 => ?_)
      exact (ih (v3 ++ ([IntKind.wrap .u8 g0])) v6 v7 (IntKind.wrap .i64 (v8 + (1 : Int)))).mono fun y hy => by cases y <;> exact Loops.next (R92_0_0 v3 v6 v7 v8 g0 h0 h1 h2) hy
    · exact Ans.some (Loops.stop (R92_0_1 v3 v6 v7 v8 h0) (by intro h; cases h))
theorem P92_0 (x0 : List Int) (w0_3 : List Int) (h0 : Loops E 92 (lpAt Try.f92 0) (stL 20 [(3, .one (.s .own () 1 (([] : List Int).map etY))), (6, .one (.s .far () 1 (x0.map etI))), (7, .one (tI (x0.length : Int))), (8, .one (tI (0 : Int)))]) (.exit 0) (stL 20 [(3, .one (.s .own () 1 (w0_3.map etY)))])) : Does E 92 [.one (.s .far () 1 (x0.map etI))] [(false, [tS (strOfNums w0_3)])] :=
  Does.path (fn := Try.f92) [.val (.int .i64 (x0.length : Int)), .lp (.exit 0) (stL 20 [(3, .one (.s .own () 1 (w0_3.map etY)))]), .val (.string (strOfNums w0_3))] [fun _ => ((x0.map etI).length : Int) = (x0.length : Int), fun k => LoopK E 92 (lpAt Try.f92 0) (stL 20 [(3, .one (.s .own () 1 (([] : List Int).map etY))), (6, .one (.s .far () 1 (x0.map etI))), (7, .one (tI (x0.length : Int))), (8, .one (tI (0 : Int)))]) (.exit 0) (stL 20 [(3, .one (.s .own () 1 (w0_3.map etY)))]) k k, fun _ => (numsOf (((w0_3.map etY).drop 0).take (w0_3.map etY).length)).map strOfNums = some (strOfNums w0_3)] rfl rfl (fun k => by kernel_rfl) ⟨Ev.c lenMap, Loops.ev h0, Ev.c (by simp only [List.take_length, List.drop_zero]; exact strMap), trivial⟩
noncomputable def sem92 (n : Nat) (x0 : List Int) : Option (ByteArray) :=
    (loop92_0 n ([]) x0 (x0.length : Int) (0 : Int)).bind fun y => match y with
      | .x0 w0_3 => (some (strOfNums w0_3))
theorem D92 (n : Nat) (x0 : List Int) : Ans (sem92 n x0) (fun r => Does E 92 [.one (.s .far () 1 (x0.map etI))] [(false, [tS r])]) := by
  unfold sem92
  refine Ans.bind (fun y hy => ?_)
  replace hy := L92_0 n ([]) x0 (x0.length : Int) (0 : Int) y hy
  cases y with
  | x0 w0_3 =>
    have h0 := hy
    exact Ans.some (P92_0 x0 w0_3 h0)
def octs (l : List Int) : ByteArray := strOfNums (l.map fun n => IntKind.wrap .u8 n)
theorem loop92_ok (l : List Int) (hl : l.length ≤ 1000) : ∀ (d i n : Nat) (acc : List Int), i + d = l.length → d < n → acc.length ≤ i → loop92_0 n acc l (l.length : Int) i = some (.x0 (acc ++ (l.drop i).map fun n => IntKind.wrap .u8 n))
  | 0, i, n, acc, hi, hn, ha => by
    obtain ⟨n, rfl⟩ : ∃ m, n = m + 1 := ⟨n - 1, by omega⟩
    simp only [loop92_0]
    rw [show decide ((i : Int) < (l.length : Int)) = false from decide_eq_false (by omega), List.drop_of_length_le (by omega)]
    simp
  | d + 1, i, n, acc, hi, hn, ha => by
    obtain ⟨n, rfl⟩ : ∃ m, n = m + 1 := ⟨n - 1, by omega⟩
    have hil : i < l.length := by omega
    simp only [loop92_0]
    rw [show decide ((i : Int) < (l.length : Int)) = true from decide_eq_true (by omega), show getI l (i : Int) = l[i]? by (unfold getI; rw [if_pos (by omega)]; simp), List.getElem?_eq_getElem hil, wrap1 i (by omega)]
    simp only [cond_true, Option.bind_some]
    rw [if_pos (by constructor <;> simp <;> omega), loop92_ok l hl d (i + 1) n _ (by omega) (by omega) (by simp; omega), List.drop_eq_getElem_cons hil]
    simp only [List.map_cons, List.append_assoc, List.singleton_append]
theorem T92 (l : List Int) (hl : l.length ≤ 1000) : Does E 92 [.one (.s .far () 1 (l.map etI))] [(false, [tS (octs l)])] := D92 (l.length + 1) l _ (by
  unfold sem92 octs
  rw [show (0 : Int) = ((0 : Nat) : Int) from rfl, loop92_ok l hl l.length 0 _ [] (by omega) (by omega) (by simp)]
  simp)
/-- What is known of a command whose text is asked for. -/
def Fit (x : S26) : Prop := x.f1 ≤ 9223372036854775807 ∧ x.f2 ≤ 9223372036854775807 ∧ x.f5 ≤ 9223372036854775807 ∧ x.f6 ≤ 9223372036854775807 ∧ x.f3.size ≤ 1048576 ∧ x.f4.size ≤ 1048576
theorem Fit.short {x : S26} (h : Fit x) : Short x := ⟨by have := h.2.2.2.2.1; omega, by have := h.2.2.2.2.2; omega⟩
noncomputable def cmdText (x : S26) : ByteArray × Bool :=
  cond (cmdOk x) (byteOf x.f0 ++ varOf x.f1 ++ varOf x.f2 ++ shortOf x.f3 ++ shortOf x.f4 ++ varOf x.f5 ++ varOf x.f6 ++ flagOf x.f7, true) (ByteArray.empty, false)
-- function 35: loop.example/g00188/spec.CommandText
theorem L35_0 (x0 : S26) (h0 : Short x0) (h1 : (cmdOk x0) = true) (h2 : x0.f1 ≤ 9223372036854775807) (h3 : (byteOf x0.f0).size + (varOf x0.f1).size ≤ maxStr) (h4 : x0.f2 ≤ 9223372036854775807) (h5 : ((byteOf x0.f0) ++ (varOf x0.f1)).size + (varOf x0.f2).size ≤ maxStr) (h6 : x0.f3.size ≤ 1048576) (h7 : (((byteOf x0.f0) ++ (varOf x0.f1)) ++ (varOf x0.f2)).size + (shortOf x0.f3).size ≤ maxStr) (h8 : x0.f4.size ≤ 1048576) (h9 : ((((byteOf x0.f0) ++ (varOf x0.f1)) ++ (varOf x0.f2)) ++ (shortOf x0.f3)).size + (shortOf x0.f4).size ≤ maxStr) (h10 : x0.f5 ≤ 9223372036854775807) (h11 : (((((byteOf x0.f0) ++ (varOf x0.f1)) ++ (varOf x0.f2)) ++ (shortOf x0.f3)) ++ (shortOf x0.f4)).size + (varOf x0.f5).size ≤ maxStr) (h12 : x0.f6 ≤ 9223372036854775807) (h13 : ((((((byteOf x0.f0) ++ (varOf x0.f1)) ++ (varOf x0.f2)) ++ (shortOf x0.f3)) ++ (shortOf x0.f4)) ++ (varOf x0.f5)).size + (varOf x0.f6).size ≤ maxStr) (h14 : (((((((byteOf x0.f0) ++ (varOf x0.f1)) ++ (varOf x0.f2)) ++ (shortOf x0.f3)) ++ (shortOf x0.f4)) ++ (varOf x0.f5)) ++ (varOf x0.f6)).size + (flagOf x0.f7).size ≤ maxStr) : Does E 35 [.agg (S26.t x0)] [(false, [tS ((((((((byteOf x0.f0) ++ (varOf x0.f1)) ++ (varOf x0.f2)) ++ (shortOf x0.f3)) ++ (shortOf x0.f4)) ++ (varOf x0.f5)) ++ (varOf x0.f6)) ++ (flagOf x0.f7))]), (false, [tB true])] :=
  Does.path (fn := Try.f35) [.ret [(false, [tB true])], .ret [(false, [tS (byteOf x0.f0)])], .ret [(false, [tS (varOf x0.f1)])], .val (.string ((byteOf x0.f0) ++ (varOf x0.f1))), .ret [(false, [tS (varOf x0.f2)])], .val (.string (((byteOf x0.f0) ++ (varOf x0.f1)) ++ (varOf x0.f2))), .ret [(false, [tS (shortOf x0.f3)])], .val (.string ((((byteOf x0.f0) ++ (varOf x0.f1)) ++ (varOf x0.f2)) ++ (shortOf x0.f3))), .ret [(false, [tS (shortOf x0.f4)])], .val (.string (((((byteOf x0.f0) ++ (varOf x0.f1)) ++ (varOf x0.f2)) ++ (shortOf x0.f3)) ++ (shortOf x0.f4))), .ret [(false, [tS (varOf x0.f5)])], .val (.string ((((((byteOf x0.f0) ++ (varOf x0.f1)) ++ (varOf x0.f2)) ++ (shortOf x0.f3)) ++ (shortOf x0.f4)) ++ (varOf x0.f5))), .ret [(false, [tS (varOf x0.f6)])], .val (.string (((((((byteOf x0.f0) ++ (varOf x0.f1)) ++ (varOf x0.f2)) ++ (shortOf x0.f3)) ++ (shortOf x0.f4)) ++ (varOf x0.f5)) ++ (varOf x0.f6))), .ret [(false, [tS (flagOf x0.f7)])], .val (.string ((((((((byteOf x0.f0) ++ (varOf x0.f1)) ++ (varOf x0.f2)) ++ (shortOf x0.f3)) ++ (shortOf x0.f4)) ++ (varOf x0.f5)) ++ (varOf x0.f6)) ++ (flagOf x0.f7)))] [fun k => E.C k 22 [.agg (S26.t x0)] = some [(false, [tB true])], fun k => E.C k 88 [.one (tI x0.f0)] = some [(false, [tS (byteOf x0.f0)])], fun k => E.C k 89 [.one (tI x0.f1)] = some [(false, [tS (varOf x0.f1)])], fun _ => binV E.tab .add 9 (.string (byteOf x0.f0)) (.string (varOf x0.f1)) = some (.string ((byteOf x0.f0) ++ (varOf x0.f1))), fun k => E.C k 89 [.one (tI x0.f2)] = some [(false, [tS (varOf x0.f2)])], fun _ => binV E.tab .add 9 (.string ((byteOf x0.f0) ++ (varOf x0.f1))) (.string (varOf x0.f2)) = some (.string (((byteOf x0.f0) ++ (varOf x0.f1)) ++ (varOf x0.f2))), fun k => E.C k 90 [.one (tS x0.f3)] = some [(false, [tS (shortOf x0.f3)])], fun _ => binV E.tab .add 9 (.string (((byteOf x0.f0) ++ (varOf x0.f1)) ++ (varOf x0.f2))) (.string (shortOf x0.f3)) = some (.string ((((byteOf x0.f0) ++ (varOf x0.f1)) ++ (varOf x0.f2)) ++ (shortOf x0.f3))), fun k => E.C k 90 [.one (tS x0.f4)] = some [(false, [tS (shortOf x0.f4)])], fun _ => binV E.tab .add 9 (.string ((((byteOf x0.f0) ++ (varOf x0.f1)) ++ (varOf x0.f2)) ++ (shortOf x0.f3))) (.string (shortOf x0.f4)) = some (.string (((((byteOf x0.f0) ++ (varOf x0.f1)) ++ (varOf x0.f2)) ++ (shortOf x0.f3)) ++ (shortOf x0.f4))), fun k => E.C k 89 [.one (tI x0.f5)] = some [(false, [tS (varOf x0.f5)])], fun _ => binV E.tab .add 9 (.string (((((byteOf x0.f0) ++ (varOf x0.f1)) ++ (varOf x0.f2)) ++ (shortOf x0.f3)) ++ (shortOf x0.f4))) (.string (varOf x0.f5)) = some (.string ((((((byteOf x0.f0) ++ (varOf x0.f1)) ++ (varOf x0.f2)) ++ (shortOf x0.f3)) ++ (shortOf x0.f4)) ++ (varOf x0.f5))), fun k => E.C k 89 [.one (tI x0.f6)] = some [(false, [tS (varOf x0.f6)])], fun _ => binV E.tab .add 9 (.string ((((((byteOf x0.f0) ++ (varOf x0.f1)) ++ (varOf x0.f2)) ++ (shortOf x0.f3)) ++ (shortOf x0.f4)) ++ (varOf x0.f5))) (.string (varOf x0.f6)) = some (.string (((((((byteOf x0.f0) ++ (varOf x0.f1)) ++ (varOf x0.f2)) ++ (shortOf x0.f3)) ++ (shortOf x0.f4)) ++ (varOf x0.f5)) ++ (varOf x0.f6))), fun k => E.C k 91 [.one (tB x0.f7)] = some [(false, [tS (flagOf x0.f7)])], fun _ => binV E.tab .add 9 (.string (((((((byteOf x0.f0) ++ (varOf x0.f1)) ++ (varOf x0.f2)) ++ (shortOf x0.f3)) ++ (shortOf x0.f4)) ++ (varOf x0.f5)) ++ (varOf x0.f6))) (.string (flagOf x0.f7)) = some (.string ((((((((byteOf x0.f0) ++ (varOf x0.f1)) ++ (varOf x0.f2)) ++ (shortOf x0.f3)) ++ (shortOf x0.f4)) ++ (varOf x0.f5)) ++ (varOf x0.f6)) ++ (flagOf x0.f7)))] rfl rfl (fun k => by kernel_rfl) ⟨Does.to (T22 x0 h0) (by rw [h1]), T88 x0.f0, T89 x0.f1 h2, Ev.c (strAdd h3), T89 x0.f2 h4, Ev.c (strAdd h5), T90 x0.f3 h6, Ev.c (strAdd h7), T90 x0.f4 h8, Ev.c (strAdd h9), T89 x0.f5 h10, Ev.c (strAdd h11), T89 x0.f6 h12, Ev.c (strAdd h13), T91 x0.f7, Ev.c (strAdd h14), trivial⟩
theorem L35_1 (x0 : S26) (h0 : Short x0) (h1 : (cmdOk x0) = false) : Does E 35 [.agg (S26.t x0)] [(false, [tS ByteArray.empty]), (false, [tB false])] :=
  Does.path (fn := Try.f35) [.ret [(false, [tB false])]] [fun k => E.C k 22 [.agg (S26.t x0)] = some [(false, [tB false])]] rfl rfl (fun k => by kernel_rfl) ⟨Does.to (T22 x0 h0) (by rw [h1]), trivial⟩
noncomputable def sem35 (x0 : S26) : Option (ByteArray × Bool) :=
    if Short x0 then cond (cmdOk x0)
      (if x0.f1 ≤ 9223372036854775807 then if (byteOf x0.f0).size + (varOf x0.f1).size ≤ maxStr then if x0.f2 ≤ 9223372036854775807 then if ((byteOf x0.f0) ++ (varOf x0.f1)).size + (varOf x0.f2).size ≤ maxStr then if x0.f3.size ≤ 1048576 then if (((byteOf x0.f0) ++ (varOf x0.f1)) ++ (varOf x0.f2)).size + (shortOf x0.f3).size ≤ maxStr then if x0.f4.size ≤ 1048576 then if ((((byteOf x0.f0) ++ (varOf x0.f1)) ++ (varOf x0.f2)) ++ (shortOf x0.f3)).size + (shortOf x0.f4).size ≤ maxStr then if x0.f5 ≤ 9223372036854775807 then if (((((byteOf x0.f0) ++ (varOf x0.f1)) ++ (varOf x0.f2)) ++ (shortOf x0.f3)) ++ (shortOf x0.f4)).size + (varOf x0.f5).size ≤ maxStr then if x0.f6 ≤ 9223372036854775807 then if ((((((byteOf x0.f0) ++ (varOf x0.f1)) ++ (varOf x0.f2)) ++ (shortOf x0.f3)) ++ (shortOf x0.f4)) ++ (varOf x0.f5)).size + (varOf x0.f6).size ≤ maxStr then if (((((((byteOf x0.f0) ++ (varOf x0.f1)) ++ (varOf x0.f2)) ++ (shortOf x0.f3)) ++ (shortOf x0.f4)) ++ (varOf x0.f5)) ++ (varOf x0.f6)).size + (flagOf x0.f7).size ≤ maxStr then some ((((((((byteOf x0.f0) ++ (varOf x0.f1)) ++ (varOf x0.f2)) ++ (shortOf x0.f3)) ++ (shortOf x0.f4)) ++ (varOf x0.f5)) ++ (varOf x0.f6)) ++ (flagOf x0.f7), true) else none else none else none else none else none else none else none else none else none else none else none else none else none)
      (some (ByteArray.empty, false)) else none
theorem D35 (x0 : S26) : Ans (sem35 x0) (fun r => Does E 35 [.agg (S26.t x0)] [(false, [tS r.1]), (false, [tB r.2])]) := by
  unfold sem35
  refine Ans.pre (fun h0 => ?_)
  refine Ans.ite (fun h1 => ?_) (fun h1 => ?_)
  · refine Ans.pre (fun h2 => ?_)
    refine Ans.pre (fun h3 => ?_)
    refine Ans.pre (fun h4 => ?_)
    refine Ans.pre (fun h5 => ?_)
    refine Ans.pre (fun h6 => ?_)
    refine Ans.pre (fun h7 => ?_)
    refine Ans.pre (fun h8 => ?_)
    refine Ans.pre (fun h9 => ?_)
    refine Ans.pre (fun h10 => ?_)
    refine Ans.pre (fun h11 => ?_)
    refine Ans.pre (fun h12 => ?_)
    refine Ans.pre (fun h13 => ?_)
    refine Ans.pre (fun h14 => ?_)
    exact Ans.some (L35_0 x0 h0 h1 h2 h3 h4 h5 h6 h7 h8 h9 h10 h11 h12 h13 h14)
  · exact Ans.some (L35_1 x0 h0 h1)
theorem T35 (x : S26) (h : Fit x) : Does E 35 [.agg (S26.t x)] [(false, [tS (cmdText x).1]), (false, [tB (cmdText x).2])] := D35 x (cmdText x) (by
  have hs := h.short
  obtain ⟨h1, h2, h5, h6, h3, h4⟩ := h
  have a0 : (byteOf x.f0).size = 1 := by unfold byteOf; rw [strOfNums_size]; rfl
  have a1 := varOf_size x.f1
  have a2 := varOf_size x.f2
  have a3 := shortOf_size x.f3
  have a4 := shortOf_size x.f4
  have a5 := varOf_size x.f5
  have a6 := varOf_size x.f6
  have a7 := flagOf_size x.f7
  have e0 : octs [x.f0] = byteOf x.f0 := rfl
  unfold sem35 cmdText
  refine (if_pos hs).trans ?_
  cases cmdOk x
  · rfl
  · simp only [cond_true]
    repeat (refine (if_pos (by first | assumption | (simp only [ByteArray.size_append, maxStr]; omega) | (simp; done))).trans ?_)
    rfl)
-- function 36: loop.example/g00188/impl.CommandText
theorem L36_0 (x0 : S26) (h0 : Short x0) (h1 : (cmdOk x0) = true) (h2 : ([x0.f0]).length ≤ 1000) (h3 : x0.f1 ≤ 9223372036854775807) (h4 : (octs ([x0.f0])).size + (varOf x0.f1).size ≤ maxStr) (h5 : x0.f2 ≤ 9223372036854775807) (h6 : ((octs ([x0.f0])) ++ (varOf x0.f1)).size + (varOf x0.f2).size ≤ maxStr) (h7 : x0.f3.size ≤ 1048576) (h8 : (((octs ([x0.f0])) ++ (varOf x0.f1)) ++ (varOf x0.f2)).size + (shortOf x0.f3).size ≤ maxStr) (h9 : x0.f4.size ≤ 1048576) (h10 : ((((octs ([x0.f0])) ++ (varOf x0.f1)) ++ (varOf x0.f2)) ++ (shortOf x0.f3)).size + (shortOf x0.f4).size ≤ maxStr) (h11 : x0.f5 ≤ 9223372036854775807) (h12 : (((((octs ([x0.f0])) ++ (varOf x0.f1)) ++ (varOf x0.f2)) ++ (shortOf x0.f3)) ++ (shortOf x0.f4)).size + (varOf x0.f5).size ≤ maxStr) (h13 : x0.f6 ≤ 9223372036854775807) (h14 : ((((((octs ([x0.f0])) ++ (varOf x0.f1)) ++ (varOf x0.f2)) ++ (shortOf x0.f3)) ++ (shortOf x0.f4)) ++ (varOf x0.f5)).size + (varOf x0.f6).size ≤ maxStr) (h15 : (((((((octs ([x0.f0])) ++ (varOf x0.f1)) ++ (varOf x0.f2)) ++ (shortOf x0.f3)) ++ (shortOf x0.f4)) ++ (varOf x0.f5)) ++ (varOf x0.f6)).size + (flagOf x0.f7).size ≤ maxStr) : Does E 36 [.agg (S26.t x0)] [(false, [tS ((((((((octs ([x0.f0])) ++ (varOf x0.f1)) ++ (varOf x0.f2)) ++ (shortOf x0.f3)) ++ (shortOf x0.f4)) ++ (varOf x0.f5)) ++ (varOf x0.f6)) ++ (flagOf x0.f7))]), (false, [tB true])] :=
  Does.path (fn := Try.f36) [.ret [(false, [tB true])], .ret [(false, [tS (octs ([x0.f0]))])], .ret [(false, [tS (varOf x0.f1)])], .val (.string ((octs ([x0.f0])) ++ (varOf x0.f1))), .ret [(false, [tS (varOf x0.f2)])], .val (.string (((octs ([x0.f0])) ++ (varOf x0.f1)) ++ (varOf x0.f2))), .ret [(false, [tS (shortOf x0.f3)])], .val (.string ((((octs ([x0.f0])) ++ (varOf x0.f1)) ++ (varOf x0.f2)) ++ (shortOf x0.f3))), .ret [(false, [tS (shortOf x0.f4)])], .val (.string (((((octs ([x0.f0])) ++ (varOf x0.f1)) ++ (varOf x0.f2)) ++ (shortOf x0.f3)) ++ (shortOf x0.f4))), .ret [(false, [tS (varOf x0.f5)])], .val (.string ((((((octs ([x0.f0])) ++ (varOf x0.f1)) ++ (varOf x0.f2)) ++ (shortOf x0.f3)) ++ (shortOf x0.f4)) ++ (varOf x0.f5))), .ret [(false, [tS (varOf x0.f6)])], .val (.string (((((((octs ([x0.f0])) ++ (varOf x0.f1)) ++ (varOf x0.f2)) ++ (shortOf x0.f3)) ++ (shortOf x0.f4)) ++ (varOf x0.f5)) ++ (varOf x0.f6))), .ret [(false, [tS (flagOf x0.f7)])], .val (.string ((((((((octs ([x0.f0])) ++ (varOf x0.f1)) ++ (varOf x0.f2)) ++ (shortOf x0.f3)) ++ (shortOf x0.f4)) ++ (varOf x0.f5)) ++ (varOf x0.f6)) ++ (flagOf x0.f7)))] [fun k => E.C k 24 [.agg (S26.t x0)] = some [(false, [tB true])], fun k => E.C k 92 [.one (.s .far () 1 (((([x0.f0]).map etI).drop 0).take (([x0.f0]).map etI).length))] = some [(false, [tS (octs ([x0.f0]))])], fun k => E.C k 93 [.one (tI x0.f1)] = some [(false, [tS (varOf x0.f1)])], fun _ => binV E.tab .add 9 (.string (octs ([x0.f0]))) (.string (varOf x0.f1)) = some (.string ((octs ([x0.f0])) ++ (varOf x0.f1))), fun k => E.C k 93 [.one (tI x0.f2)] = some [(false, [tS (varOf x0.f2)])], fun _ => binV E.tab .add 9 (.string ((octs ([x0.f0])) ++ (varOf x0.f1))) (.string (varOf x0.f2)) = some (.string (((octs ([x0.f0])) ++ (varOf x0.f1)) ++ (varOf x0.f2))), fun k => E.C k 94 [.one (tS x0.f3)] = some [(false, [tS (shortOf x0.f3)])], fun _ => binV E.tab .add 9 (.string (((octs ([x0.f0])) ++ (varOf x0.f1)) ++ (varOf x0.f2))) (.string (shortOf x0.f3)) = some (.string ((((octs ([x0.f0])) ++ (varOf x0.f1)) ++ (varOf x0.f2)) ++ (shortOf x0.f3))), fun k => E.C k 94 [.one (tS x0.f4)] = some [(false, [tS (shortOf x0.f4)])], fun _ => binV E.tab .add 9 (.string ((((octs ([x0.f0])) ++ (varOf x0.f1)) ++ (varOf x0.f2)) ++ (shortOf x0.f3))) (.string (shortOf x0.f4)) = some (.string (((((octs ([x0.f0])) ++ (varOf x0.f1)) ++ (varOf x0.f2)) ++ (shortOf x0.f3)) ++ (shortOf x0.f4))), fun k => E.C k 93 [.one (tI x0.f5)] = some [(false, [tS (varOf x0.f5)])], fun _ => binV E.tab .add 9 (.string (((((octs ([x0.f0])) ++ (varOf x0.f1)) ++ (varOf x0.f2)) ++ (shortOf x0.f3)) ++ (shortOf x0.f4))) (.string (varOf x0.f5)) = some (.string ((((((octs ([x0.f0])) ++ (varOf x0.f1)) ++ (varOf x0.f2)) ++ (shortOf x0.f3)) ++ (shortOf x0.f4)) ++ (varOf x0.f5))), fun k => E.C k 93 [.one (tI x0.f6)] = some [(false, [tS (varOf x0.f6)])], fun _ => binV E.tab .add 9 (.string ((((((octs ([x0.f0])) ++ (varOf x0.f1)) ++ (varOf x0.f2)) ++ (shortOf x0.f3)) ++ (shortOf x0.f4)) ++ (varOf x0.f5))) (.string (varOf x0.f6)) = some (.string (((((((octs ([x0.f0])) ++ (varOf x0.f1)) ++ (varOf x0.f2)) ++ (shortOf x0.f3)) ++ (shortOf x0.f4)) ++ (varOf x0.f5)) ++ (varOf x0.f6))), fun k => E.C k 95 [.one (tB x0.f7)] = some [(false, [tS (flagOf x0.f7)])], fun _ => binV E.tab .add 9 (.string (((((((octs ([x0.f0])) ++ (varOf x0.f1)) ++ (varOf x0.f2)) ++ (shortOf x0.f3)) ++ (shortOf x0.f4)) ++ (varOf x0.f5)) ++ (varOf x0.f6))) (.string (flagOf x0.f7)) = some (.string ((((((((octs ([x0.f0])) ++ (varOf x0.f1)) ++ (varOf x0.f2)) ++ (shortOf x0.f3)) ++ (shortOf x0.f4)) ++ (varOf x0.f5)) ++ (varOf x0.f6)) ++ (flagOf x0.f7)))] rfl rfl (fun k => by kernel_rfl) ⟨Does.to (T24 x0 h0) (by rw [h1]), Does.args (by simp only [List.take_length, List.drop_zero]) (T92 ([x0.f0]) h2), T93 x0.f1 h3, Ev.c (strAdd h4), T93 x0.f2 h5, Ev.c (strAdd h6), T94 x0.f3 h7, Ev.c (strAdd h8), T94 x0.f4 h9, Ev.c (strAdd h10), T93 x0.f5 h11, Ev.c (strAdd h12), T93 x0.f6 h13, Ev.c (strAdd h14), T95 x0.f7, Ev.c (strAdd h15), trivial⟩
theorem L36_1 (x0 : S26) (h0 : Short x0) (h1 : (cmdOk x0) = false) : Does E 36 [.agg (S26.t x0)] [(false, [tS ByteArray.empty]), (false, [tB false])] :=
  Does.path (fn := Try.f36) [.ret [(false, [tB false])]] [fun k => E.C k 24 [.agg (S26.t x0)] = some [(false, [tB false])]] rfl rfl (fun k => by kernel_rfl) ⟨Does.to (T24 x0 h0) (by rw [h1]), trivial⟩
noncomputable def sem36 (x0 : S26) : Option (ByteArray × Bool) :=
    if Short x0 then cond (cmdOk x0)
      (if ([x0.f0]).length ≤ 1000 then if x0.f1 ≤ 9223372036854775807 then if (octs ([x0.f0])).size + (varOf x0.f1).size ≤ maxStr then if x0.f2 ≤ 9223372036854775807 then if ((octs ([x0.f0])) ++ (varOf x0.f1)).size + (varOf x0.f2).size ≤ maxStr then if x0.f3.size ≤ 1048576 then if (((octs ([x0.f0])) ++ (varOf x0.f1)) ++ (varOf x0.f2)).size + (shortOf x0.f3).size ≤ maxStr then if x0.f4.size ≤ 1048576 then if ((((octs ([x0.f0])) ++ (varOf x0.f1)) ++ (varOf x0.f2)) ++ (shortOf x0.f3)).size + (shortOf x0.f4).size ≤ maxStr then if x0.f5 ≤ 9223372036854775807 then if (((((octs ([x0.f0])) ++ (varOf x0.f1)) ++ (varOf x0.f2)) ++ (shortOf x0.f3)) ++ (shortOf x0.f4)).size + (varOf x0.f5).size ≤ maxStr then if x0.f6 ≤ 9223372036854775807 then if ((((((octs ([x0.f0])) ++ (varOf x0.f1)) ++ (varOf x0.f2)) ++ (shortOf x0.f3)) ++ (shortOf x0.f4)) ++ (varOf x0.f5)).size + (varOf x0.f6).size ≤ maxStr then if (((((((octs ([x0.f0])) ++ (varOf x0.f1)) ++ (varOf x0.f2)) ++ (shortOf x0.f3)) ++ (shortOf x0.f4)) ++ (varOf x0.f5)) ++ (varOf x0.f6)).size + (flagOf x0.f7).size ≤ maxStr then some ((((((((octs ([x0.f0])) ++ (varOf x0.f1)) ++ (varOf x0.f2)) ++ (shortOf x0.f3)) ++ (shortOf x0.f4)) ++ (varOf x0.f5)) ++ (varOf x0.f6)) ++ (flagOf x0.f7), true) else none else none else none else none else none else none else none else none else none else none else none else none else none else none)
      (some (ByteArray.empty, false)) else none
theorem D36 (x0 : S26) : Ans (sem36 x0) (fun r => Does E 36 [.agg (S26.t x0)] [(false, [tS r.1]), (false, [tB r.2])]) := by
  unfold sem36
  refine Ans.pre (fun h0 => ?_)
  refine Ans.ite (fun h1 => ?_) (fun h1 => ?_)
  · refine Ans.pre (fun h2 => ?_)
    refine Ans.pre (fun h3 => ?_)
    refine Ans.pre (fun h4 => ?_)
    refine Ans.pre (fun h5 => ?_)
    refine Ans.pre (fun h6 => ?_)
    refine Ans.pre (fun h7 => ?_)
    refine Ans.pre (fun h8 => ?_)
    refine Ans.pre (fun h9 => ?_)
    refine Ans.pre (fun h10 => ?_)
    refine Ans.pre (fun h11 => ?_)
    refine Ans.pre (fun h12 => ?_)
    refine Ans.pre (fun h13 => ?_)
    refine Ans.pre (fun h14 => ?_)
    refine Ans.pre (fun h15 => ?_)
    exact Ans.some (L36_0 x0 h0 h1 h2 h3 h4 h5 h6 h7 h8 h9 h10 h11 h12 h13 h14 h15)
  · exact Ans.some (L36_1 x0 h0 h1)
theorem T36 (x : S26) (h : Fit x) : Does E 36 [.agg (S26.t x)] [(false, [tS (cmdText x).1]), (false, [tB (cmdText x).2])] := D36 x (cmdText x) (by
  have hs := h.short
  obtain ⟨h1, h2, h5, h6, h3, h4⟩ := h
  have a0 : (byteOf x.f0).size = 1 := by unfold byteOf; rw [strOfNums_size]; rfl
  have a1 := varOf_size x.f1
  have a2 := varOf_size x.f2
  have a3 := shortOf_size x.f3
  have a4 := shortOf_size x.f4
  have a5 := varOf_size x.f5
  have a6 := varOf_size x.f6
  have a7 := flagOf_size x.f7
  have e0 : octs [x.f0] = byteOf x.f0 := rfl
  unfold sem36 cmdText
  refine (if_pos hs).trans ?_
  cases cmdOk x
  · rfl
  · simp only [cond_true, e0]
    repeat (refine (if_pos (by first | assumption | (simp only [ByteArray.size_append, maxStr]; omega) | (simp; done))).trans ?_)
    rfl)
-- function 9: loop.example/g00188/laws.FnExactCommandText
theorem L9_0 (x0 : S26) (h0 : (decide ((szCmd x0 (1048576 : Int)) < (0 : Int))) = true) : Does E 9 [.agg (S26.t x0)] [(false, [tB true])] :=
  Does.path (fn := Try.f9) [.ret [(false, [tI (szCmd x0 (1048576 : Int))])], .b true] [fun k => E.C k 21 [.agg (S26.t x0), .one (tI (1048576 : Int))] = some [(false, [tI (szCmd x0 (1048576 : Int))])], fun _ => (decide ((szCmd x0 (1048576 : Int)) < (0 : Int))) = true] rfl rfl (fun k => by kernel_rfl) ⟨T21 x0 (1048576 : Int), Ev.c h0, trivial⟩
theorem L9_1 (x0 : S26) (h0 : (decide ((szCmd x0 (1048576 : Int)) < (0 : Int))) = false) (h1 : Fit (toCmd x0)) (h2 : (!(((cmdText (toCmd x0)).1).toList == ((cmdText (toCmd x0)).1).toList)) = true) : Does E 9 [.agg (S26.t x0)] [(false, [tB false])] :=
  Does.path (fn := Try.f9) [.ret [(false, [tI (szCmd x0 (1048576 : Int))])], .b false, .ret [(true, S26.t (toCmd x0))], .ret [(false, [tS ((cmdText (toCmd x0)).1)]), (false, [tB ((cmdText (toCmd x0)).2)])], .ret [(true, S26.t (toCmd x0))], .ret [(false, [tS ((cmdText (toCmd x0)).1)]), (false, [tB ((cmdText (toCmd x0)).2)])], .b true] [fun k => E.C k 21 [.agg (S26.t x0), .one (tI (1048576 : Int))] = some [(false, [tI (szCmd x0 (1048576 : Int))])], fun _ => (decide ((szCmd x0 (1048576 : Int)) < (0 : Int))) = false, fun k => E.C k 23 [.agg (S26.t x0)] = some [(true, S26.t (toCmd x0))], fun k => E.C k 35 [.agg (S26.t (toCmd x0))] = some [(false, [tS ((cmdText (toCmd x0)).1)]), (false, [tB ((cmdText (toCmd x0)).2)])], fun k => E.C k 23 [.agg (S26.t x0)] = some [(true, S26.t (toCmd x0))], fun k => E.C k 36 [.agg (S26.t (toCmd x0))] = some [(false, [tS ((cmdText (toCmd x0)).1)]), (false, [tB ((cmdText (toCmd x0)).2)])], fun _ => (!(((cmdText (toCmd x0)).1).toList == ((cmdText (toCmd x0)).1).toList)) = true] rfl rfl (fun k => by kernel_rfl) ⟨T21 x0 (1048576 : Int), Ev.c h0, T23 x0, T35 (toCmd x0) h1, T23 x0, T36 (toCmd x0) h1, Ev.c h2, trivial⟩
theorem L9_2 (x0 : S26) (h0 : (decide ((szCmd x0 (1048576 : Int)) < (0 : Int))) = false) (h1 : Fit (toCmd x0)) (h2 : (!(((cmdText (toCmd x0)).1).toList == ((cmdText (toCmd x0)).1).toList)) = false) (h3 : (!(((cmdText (toCmd x0)).2) == ((cmdText (toCmd x0)).2))) = true) : Does E 9 [.agg (S26.t x0)] [(false, [tB false])] :=
  Does.path (fn := Try.f9) [.ret [(false, [tI (szCmd x0 (1048576 : Int))])], .b false, .ret [(true, S26.t (toCmd x0))], .ret [(false, [tS ((cmdText (toCmd x0)).1)]), (false, [tB ((cmdText (toCmd x0)).2)])], .ret [(true, S26.t (toCmd x0))], .ret [(false, [tS ((cmdText (toCmd x0)).1)]), (false, [tB ((cmdText (toCmd x0)).2)])], .b false, .b true] [fun k => E.C k 21 [.agg (S26.t x0), .one (tI (1048576 : Int))] = some [(false, [tI (szCmd x0 (1048576 : Int))])], fun _ => (decide ((szCmd x0 (1048576 : Int)) < (0 : Int))) = false, fun k => E.C k 23 [.agg (S26.t x0)] = some [(true, S26.t (toCmd x0))], fun k => E.C k 35 [.agg (S26.t (toCmd x0))] = some [(false, [tS ((cmdText (toCmd x0)).1)]), (false, [tB ((cmdText (toCmd x0)).2)])], fun k => E.C k 23 [.agg (S26.t x0)] = some [(true, S26.t (toCmd x0))], fun k => E.C k 36 [.agg (S26.t (toCmd x0))] = some [(false, [tS ((cmdText (toCmd x0)).1)]), (false, [tB ((cmdText (toCmd x0)).2)])], fun _ => (!(((cmdText (toCmd x0)).1).toList == ((cmdText (toCmd x0)).1).toList)) = false, fun _ => (!(((cmdText (toCmd x0)).2) == ((cmdText (toCmd x0)).2))) = true] rfl rfl (fun k => by kernel_rfl) ⟨T21 x0 (1048576 : Int), Ev.c h0, T23 x0, T35 (toCmd x0) h1, T23 x0, T36 (toCmd x0) h1, Ev.c h2, Ev.c h3, trivial⟩
theorem L9_3 (x0 : S26) (h0 : (decide ((szCmd x0 (1048576 : Int)) < (0 : Int))) = false) (h1 : Fit (toCmd x0)) (h2 : (!(((cmdText (toCmd x0)).1).toList == ((cmdText (toCmd x0)).1).toList)) = false) (h3 : (!(((cmdText (toCmd x0)).2) == ((cmdText (toCmd x0)).2))) = false) : Does E 9 [.agg (S26.t x0)] [(false, [tB true])] :=
  Does.path (fn := Try.f9) [.ret [(false, [tI (szCmd x0 (1048576 : Int))])], .b false, .ret [(true, S26.t (toCmd x0))], .ret [(false, [tS ((cmdText (toCmd x0)).1)]), (false, [tB ((cmdText (toCmd x0)).2)])], .ret [(true, S26.t (toCmd x0))], .ret [(false, [tS ((cmdText (toCmd x0)).1)]), (false, [tB ((cmdText (toCmd x0)).2)])], .b false, .b false] [fun k => E.C k 21 [.agg (S26.t x0), .one (tI (1048576 : Int))] = some [(false, [tI (szCmd x0 (1048576 : Int))])], fun _ => (decide ((szCmd x0 (1048576 : Int)) < (0 : Int))) = false, fun k => E.C k 23 [.agg (S26.t x0)] = some [(true, S26.t (toCmd x0))], fun k => E.C k 35 [.agg (S26.t (toCmd x0))] = some [(false, [tS ((cmdText (toCmd x0)).1)]), (false, [tB ((cmdText (toCmd x0)).2)])], fun k => E.C k 23 [.agg (S26.t x0)] = some [(true, S26.t (toCmd x0))], fun k => E.C k 36 [.agg (S26.t (toCmd x0))] = some [(false, [tS ((cmdText (toCmd x0)).1)]), (false, [tB ((cmdText (toCmd x0)).2)])], fun _ => (!(((cmdText (toCmd x0)).1).toList == ((cmdText (toCmd x0)).1).toList)) = false, fun _ => (!(((cmdText (toCmd x0)).2) == ((cmdText (toCmd x0)).2))) = false] rfl rfl (fun k => by kernel_rfl) ⟨T21 x0 (1048576 : Int), Ev.c h0, T23 x0, T35 (toCmd x0) h1, T23 x0, T36 (toCmd x0) h1, Ev.c h2, Ev.c h3, trivial⟩
noncomputable def sem9 (x0 : S26) : Option (Bool) :=
    cond (decide ((szCmd x0 (1048576 : Int)) < (0 : Int)))
      (some (true))
      (if Fit (toCmd x0) then cond (!(((cmdText (toCmd x0)).1).toList == ((cmdText (toCmd x0)).1).toList))
        (some (false))
        (cond (!(((cmdText (toCmd x0)).2) == ((cmdText (toCmd x0)).2)))
          (some (false))
          (some (true))) else none)
theorem D9 (x0 : S26) : Ans (sem9 x0) (fun r => Does E 9 [.agg (S26.t x0)] [(false, [tB r])]) := by
  unfold sem9
  refine Ans.ite (fun h0 => ?_) (fun h0 => ?_)
  · exact Ans.some (L9_0 x0 h0)
  · refine Ans.pre (fun h1 => ?_)
    refine Ans.ite (fun h2 => ?_) (fun h2 => ?_)
    · exact Ans.some (L9_1 x0 h0 h1 h2)
    · refine Ans.ite (fun h3 => ?_) (fun h3 => ?_)
      · exact Ans.some (L9_2 x0 h0 h1 h2 h3)
      · exact Ans.some (L9_3 x0 h0 h1 h2 h3)
theorem law9 (x : S26) (h1 : x.f1 ≤ 9223372036854775807) (h2 : x.f2 ≤ 9223372036854775807) (h5 : x.f5 ≤ 9223372036854775807) (h6 : x.f6 ≤ 9223372036854775807) (h3 : x.f3.size ≤ 9223372036854775807) (h4 : x.f4.size ≤ 9223372036854775807) :
    Does E 9 [.agg (S26.t x)] [(false, [tB true])] := D9 x _ (by
  unfold sem9
  cases h : decide (szCmd x (1048576 : Int) < (0 : Int))
  · obtain ⟨k3, k4⟩ := szCmd_small h3 h4 h
    have hf : Fit (toCmd x) := ⟨h1, h2, h5, h6, k3, k4⟩
    simp [hf]
  · rfl)
theorem wf_le {n : Int} (h : (Lit.int .i64 n).wf = true) : n ≤ 9223372036854775807 := by
  simp only [Lit.wf, Bool.and_eq_true, decide_eq_true_eq] at h
  have := h.2
  simp [IntKind.max, IntKind.bits, IntKind.signed] at this
  omega
end Go.Proofs.Ytbphhigmepdohaa.Am
