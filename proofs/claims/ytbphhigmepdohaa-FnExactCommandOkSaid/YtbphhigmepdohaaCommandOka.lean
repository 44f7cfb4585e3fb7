/- What the functions under CommandOk do. Conditions: none. -/
import Derived.Test.YtbphhigmepdohaaEnv
namespace Go.Proofs.Ytbphhigmepdohaa.Am
set_option linter.unusedVariables false
set_option linter.unusedSimpArgs false
open Go Go.Proofs
set_option maxRecDepth 100000
set_option linter.unusedVariables false
def etI (n : Int) : List (T Unit) := [tI n]
def etY (n : Int) : List (T Unit) := [tY n]
def etB (n : Bool) : List (T Unit) := [tB n]
def etS (n : ByteArray) : List (T Unit) := [tS n]
structure S26 where
  f0 : Int
  f1 : Int
  f2 : Int
  f3 : ByteArray
  f4 : ByteArray
  f5 : Int
  f6 : Int
  f7 : Bool
def S26.t (k : Kd) (x : S26) : List (T Unit) := [tI x.f0, tI x.f1, tI x.f2, tS x.f3, tS x.f4, tI x.f5, tI x.f6, tB x.f7]
def inRange (x a b : Int) : Bool := decide (x ≥ a) && decide (x ≤ b)
-- function 71: loop.example/g00188/spec.l01In
theorem L71_0 (x0 : Int) (x1 : Int) (x2 : Int) (h0 : (decide (x0 ≥ x1)) = true) : Does E 71 [.one (tI x0), .one (tI x1), .one (tI x2)] [(false, [tB (decide (x0 ≤ x2))])] :=
  Does.path (fn := Try.f71) [.b true] [fun _ => (decide (x0 ≥ x1)) = true] rfl rfl (fun k => by kernel_rfl) ⟨Ev.c h0, trivial⟩
theorem L71_1 (x0 : Int) (x1 : Int) (x2 : Int) (h0 : (decide (x0 ≥ x1)) = false) : Does E 71 [.one (tI x0), .one (tI x1), .one (tI x2)] [(false, [tB false])] :=
  Does.path (fn := Try.f71) [.b false] [fun _ => (decide (x0 ≥ x1)) = false] rfl rfl (fun k => by kernel_rfl) ⟨Ev.c h0, trivial⟩
def sem71 (x0 : Int) (x1 : Int) (x2 : Int) : Option (Bool) :=
    cond (decide (x0 ≥ x1))
      (some (decide (x0 ≤ x2)))
      (some (false))
theorem D71 (x0 : Int) (x1 : Int) (x2 : Int) : Ans (sem71 x0 x1 x2) (fun r => Does E 71 [.one (tI x0), .one (tI x1), .one (tI x2)] [(false, [tB r])]) := by
  unfold sem71
  refine Ans.ite (fun h0 => ?_) (fun h0 => ?_)
  · exact Ans.some (L71_0 x0 x1 x2 h0)
  · exact Ans.some (L71_1 x0 x1 x2 h0)
-- function 72: loop.example/g00188/impl.inRange
theorem L72_0 (x0 : Int) (x1 : Int) (x2 : Int) (h0 : (decide (x0 ≥ x1)) = true) : Does E 72 [.one (tI x0), .one (tI x1), .one (tI x2)] [(false, [tB (decide (x0 ≤ x2))])] :=
  Does.path (fn := Try.f72) [.b true] [fun _ => (decide (x0 ≥ x1)) = true] rfl rfl (fun k => by kernel_rfl) ⟨Ev.c h0, trivial⟩
theorem L72_1 (x0 : Int) (x1 : Int) (x2 : Int) (h0 : (decide (x0 ≥ x1)) = false) : Does E 72 [.one (tI x0), .one (tI x1), .one (tI x2)] [(false, [tB false])] :=
  Does.path (fn := Try.f72) [.b false] [fun _ => (decide (x0 ≥ x1)) = false] rfl rfl (fun k => by kernel_rfl) ⟨Ev.c h0, trivial⟩
def sem72 (x0 : Int) (x1 : Int) (x2 : Int) : Option (Bool) :=
    cond (decide (x0 ≥ x1))
      (some (decide (x0 ≤ x2)))
      (some (false))
theorem D72 (x0 : Int) (x1 : Int) (x2 : Int) : Ans (sem72 x0 x1 x2) (fun r => Does E 72 [.one (tI x0), .one (tI x1), .one (tI x2)] [(false, [tB r])]) := by
  unfold sem72
  refine Ans.ite (fun h0 => ?_) (fun h0 => ?_)
  · exact Ans.some (L72_0 x0 x1 x2 h0)
  · exact Ans.some (L72_1 x0 x1 x2 h0)
theorem T71 (x a b : Int) : Does E 71 [.one (tI x), .one (tI a), .one (tI b)] [(false, [tB (inRange x a b)])] := D71 x a b _ (by unfold sem71 inRange; cases decide (x ≥ a) <;> rfl)
theorem T72 (x a b : Int) : Does E 72 [.one (tI x), .one (tI a), .one (tI b)] [(false, [tB (inRange x a b)])] := D72 x a b _ (by unfold sem72 inRange; cases decide (x ≥ a) <;> rfl)
def isIndex (x : Int) : Bool := inRange x 0 1000000
def isMinute (x : Int) : Bool := inRange x 0 68374079
-- function 74: loop.example/g00188/impl.isIndex
theorem L74_0 (x0 : Int)  : Does E 74 [.one (tI x0)] [(false, [tB (inRange x0 (0 : Int) (1000000 : Int))])] :=
  Does.path (fn := Try.f74) [.ret [(false, [tB (inRange x0 (0 : Int) (1000000 : Int))])]] [fun k => E.C k 72 [.one (tI x0), .one (tI (0 : Int)), .one (tI (1000000 : Int))] = some [(false, [tB (inRange x0 (0 : Int) (1000000 : Int))])]] rfl rfl (fun k => by kernel_rfl) ⟨T72 x0 (0 : Int) (1000000 : Int), trivial⟩
def sem74 (x0 : Int) : Option (Bool) :=
    some (inRange x0 (0 : Int) (1000000 : Int))
theorem D74 (x0 : Int) : Ans (sem74 x0) (fun r => Does E 74 [.one (tI x0)] [(false, [tB r])]) := by
  unfold sem74
  exact Ans.some (L74_0 x0)
-- function 75: loop.example/g00188/impl.isMinute
theorem L75_0 (x0 : Int)  : Does E 75 [.one (tI x0)] [(false, [tB (inRange x0 (0 : Int) (68374079 : Int))])] :=
  Does.path (fn := Try.f75) [.ret [(false, [tB (inRange x0 (0 : Int) (68374079 : Int))])]] [fun k => E.C k 72 [.one (tI x0), .one (tI (0 : Int)), .one (tI (68374079 : Int))] = some [(false, [tB (inRange x0 (0 : Int) (68374079 : Int))])]] rfl rfl (fun k => by kernel_rfl) ⟨T72 x0 (0 : Int) (68374079 : Int), trivial⟩
def sem75 (x0 : Int) : Option (Bool) :=
    some (inRange x0 (0 : Int) (68374079 : Int))
theorem D75 (x0 : Int) : Ans (sem75 x0) (fun r => Does E 75 [.one (tI x0)] [(false, [tB r])]) := by
  unfold sem75
  exact Ans.some (L75_0 x0)
theorem T74 (x : Int) : Does E 74 [.one (tI x)] [(false, [tB (isIndex x)])] := D74 x _ rfl
theorem T75 (x : Int) : Does E 75 [.one (tI x)] [(false, [tB (isMinute x)])] := D75 x _ rfl
def rest (c : S26) (a b d e f : Bool) : Bool :=
  (a || c.f3.toList == ByteArray.empty.toList) && ((b || c.f4.toList == ByteArray.empty.toList) && ((d || c.f5 == 0) && ((e || c.f6 == 0) && (f || !c.f7))))
-- function 73: loop.example/g00188/spec.l16Rest
theorem L73_0 (x0 : S26)  : Does E 73 [.agg (S26.t .far x0), .one (tB true), .one (tB true), .one (tB true), .one (tB true), .one (tB true)] [(false, [tB true])] :=
  Does.path (fn := Try.f73) [] [] rfl rfl (fun k => by kernel_rfl) trivial
theorem L73_1 (x0 : S26)  : Does E 73 [.agg (S26.t .far x0), .one (tB true), .one (tB true), .one (tB true), .one (tB true), .one (tB false)] [(false, [tB (!x0.f7)])] :=
  Does.path (fn := Try.f73) [] [] rfl rfl (fun k => by kernel_rfl) trivial
theorem L73_2 (x0 : S26) (h0 : (x0.f6 == (0 : Int)) = true) : Does E 73 [.agg (S26.t .far x0), .one (tB true), .one (tB true), .one (tB true), .one (tB false), .one (tB true)] [(false, [tB true])] :=
  Does.path (fn := Try.f73) [.b true] [fun _ => (x0.f6 == (0 : Int)) = true] rfl rfl (fun k => by kernel_rfl) ⟨Ev.c h0, trivial⟩
theorem L73_3 (x0 : S26) (h0 : (x0.f6 == (0 : Int)) = true) : Does E 73 [.agg (S26.t .far x0), .one (tB true), .one (tB true), .one (tB true), .one (tB false), .one (tB false)] [(false, [tB (!x0.f7)])] :=
  Does.path (fn := Try.f73) [.b true] [fun _ => (x0.f6 == (0 : Int)) = true] rfl rfl (fun k => by kernel_rfl) ⟨Ev.c h0, trivial⟩
theorem L73_4 (x0 : S26) (x5 : Bool) (h0 : (x0.f6 == (0 : Int)) = false) : Does E 73 [.agg (S26.t .far x0), .one (tB true), .one (tB true), .one (tB true), .one (tB false), .one (tB x5)] [(false, [tB false])] :=
  Does.path (fn := Try.f73) [.b false] [fun _ => (x0.f6 == (0 : Int)) = false] rfl rfl (fun k => by kernel_rfl) ⟨Ev.c h0, trivial⟩
theorem L73_5 (x0 : S26) (h0 : (x0.f5 == (0 : Int)) = true) : Does E 73 [.agg (S26.t .far x0), .one (tB true), .one (tB true), .one (tB false), .one (tB true), .one (tB true)] [(false, [tB true])] :=
  Does.path (fn := Try.f73) [.b true] [fun _ => (x0.f5 == (0 : Int)) = true] rfl rfl (fun k => by kernel_rfl) ⟨Ev.c h0, trivial⟩
theorem L73_6 (x0 : S26) (h0 : (x0.f5 == (0 : Int)) = true) : Does E 73 [.agg (S26.t .far x0), .one (tB true), .one (tB true), .one (tB false), .one (tB true), .one (tB false)] [(false, [tB (!x0.f7)])] :=
  Does.path (fn := Try.f73) [.b true] [fun _ => (x0.f5 == (0 : Int)) = true] rfl rfl (fun k => by kernel_rfl) ⟨Ev.c h0, trivial⟩
theorem L73_7 (x0 : S26) (h0 : (x0.f5 == (0 : Int)) = true) (h1 : (x0.f6 == (0 : Int)) = true) : Does E 73 [.agg (S26.t .far x0), .one (tB true), .one (tB true), .one (tB false), .one (tB false), .one (tB true)] [(false, [tB true])] :=
  Does.path (fn := Try.f73) [.b true, .b true] [fun _ => (x0.f5 == (0 : Int)) = true, fun _ => (x0.f6 == (0 : Int)) = true] rfl rfl (fun k => by kernel_rfl) ⟨Ev.c h0, Ev.c h1, trivial⟩
theorem L73_8 (x0 : S26) (h0 : (x0.f5 == (0 : Int)) = true) (h1 : (x0.f6 == (0 : Int)) = true) : Does E 73 [.agg (S26.t .far x0), .one (tB true), .one (tB true), .one (tB false), .one (tB false), .one (tB false)] [(false, [tB (!x0.f7)])] :=
  Does.path (fn := Try.f73) [.b true, .b true] [fun _ => (x0.f5 == (0 : Int)) = true, fun _ => (x0.f6 == (0 : Int)) = true] rfl rfl (fun k => by kernel_rfl) ⟨Ev.c h0, Ev.c h1, trivial⟩
theorem L73_9 (x0 : S26) (x5 : Bool) (h0 : (x0.f5 == (0 : Int)) = true) (h1 : (x0.f6 == (0 : Int)) = false) : Does E 73 [.agg (S26.t .far x0), .one (tB true), .one (tB true), .one (tB false), .one (tB false), .one (tB x5)] [(false, [tB false])] :=
  Does.path (fn := Try.f73) [.b true, .b false] [fun _ => (x0.f5 == (0 : Int)) = true, fun _ => (x0.f6 == (0 : Int)) = false] rfl rfl (fun k => by kernel_rfl) ⟨Ev.c h0, Ev.c h1, trivial⟩
theorem L73_10 (x0 : S26) (x4 : Bool) (x5 : Bool) (h0 : (x0.f5 == (0 : Int)) = false) : Does E 73 [.agg (S26.t .far x0), .one (tB true), .one (tB true), .one (tB false), .one (tB x4), .one (tB x5)] [(false, [tB false])] :=
  Does.path (fn := Try.f73) [.b false] [fun _ => (x0.f5 == (0 : Int)) = false] rfl rfl (fun k => by kernel_rfl) ⟨Ev.c h0, trivial⟩
theorem L73_11 (x0 : S26) (h0 : (x0.f4.toList == ByteArray.empty.toList) = true) : Does E 73 [.agg (S26.t .far x0), .one (tB true), .one (tB false), .one (tB true), .one (tB true), .one (tB true)] [(false, [tB true])] :=
  Does.path (fn := Try.f73) [.b true] [fun _ => (x0.f4.toList == ByteArray.empty.toList) = true] rfl rfl (fun k => by kernel_rfl) ⟨Ev.c h0, trivial⟩
theorem L73_12 (x0 : S26) (h0 : (x0.f4.toList == ByteArray.empty.toList) = true) : Does E 73 [.agg (S26.t .far x0), .one (tB true), .one (tB false), .one (tB true), .one (tB true), .one (tB false)] [(false, [tB (!x0.f7)])] :=
  Does.path (fn := Try.f73) [.b true] [fun _ => (x0.f4.toList == ByteArray.empty.toList) = true] rfl rfl (fun k => by kernel_rfl) ⟨Ev.c h0, trivial⟩
theorem L73_13 (x0 : S26) (h0 : (x0.f4.toList == ByteArray.empty.toList) = true) (h1 : (x0.f6 == (0 : Int)) = true) : Does E 73 [.agg (S26.t .far x0), .one (tB true), .one (tB false), .one (tB true), .one (tB false), .one (tB true)] [(false, [tB true])] :=
  Does.path (fn := Try.f73) [.b true, .b true] [fun _ => (x0.f4.toList == ByteArray.empty.toList) = true, fun _ => (x0.f6 == (0 : Int)) = true] rfl rfl (fun k => by kernel_rfl) ⟨Ev.c h0, Ev.c h1, trivial⟩
theorem L73_14 (x0 : S26) (h0 : (x0.f4.toList == ByteArray.empty.toList) = true) (h1 : (x0.f6 == (0 : Int)) = true) : Does E 73 [.agg (S26.t .far x0), .one (tB true), .one (tB false), .one (tB true), .one (tB false), .one (tB false)] [(false, [tB (!x0.f7)])] :=
  Does.path (fn := Try.f73) [.b true, .b true] [fun _ => (x0.f4.toList == ByteArray.empty.toList) = true, fun _ => (x0.f6 == (0 : Int)) = true] rfl rfl (fun k => by kernel_rfl) ⟨Ev.c h0, Ev.c h1, trivial⟩
theorem L73_15 (x0 : S26) (x5 : Bool) (h0 : (x0.f4.toList == ByteArray.empty.toList) = true) (h1 : (x0.f6 == (0 : Int)) = false) : Does E 73 [.agg (S26.t .far x0), .one (tB true), .one (tB false), .one (tB true), .one (tB false), .one (tB x5)] [(false, [tB false])] :=
  Does.path (fn := Try.f73) [.b true, .b false] [fun _ => (x0.f4.toList == ByteArray.empty.toList) = true, fun _ => (x0.f6 == (0 : Int)) = false] rfl rfl (fun k => by kernel_rfl) ⟨Ev.c h0, Ev.c h1, trivial⟩
theorem L73_16 (x0 : S26) (h0 : (x0.f4.toList == ByteArray.empty.toList) = true) (h1 : (x0.f5 == (0 : Int)) = true) : Does E 73 [.agg (S26.t .far x0), .one (tB true), .one (tB false), .one (tB false), .one (tB true), .one (tB true)] [(false, [tB true])] :=
  Does.path (fn := Try.f73) [.b true, .b true] [fun _ => (x0.f4.toList == ByteArray.empty.toList) = true, fun _ => (x0.f5 == (0 : Int)) = true] rfl rfl (fun k => by kernel_rfl) ⟨Ev.c h0, Ev.c h1, trivial⟩
theorem L73_17 (x0 : S26) (h0 : (x0.f4.toList == ByteArray.empty.toList) = true) (h1 : (x0.f5 == (0 : Int)) = true) : Does E 73 [.agg (S26.t .far x0), .one (tB true), .one (tB false), .one (tB false), .one (tB true), .one (tB false)] [(false, [tB (!x0.f7)])] :=
  Does.path (fn := Try.f73) [.b true, .b true] [fun _ => (x0.f4.toList == ByteArray.empty.toList) = true, fun _ => (x0.f5 == (0 : Int)) = true] rfl rfl (fun k => by kernel_rfl) ⟨Ev.c h0, Ev.c h1, trivial⟩
theorem L73_18 (x0 : S26) (h0 : (x0.f4.toList == ByteArray.empty.toList) = true) (h1 : (x0.f5 == (0 : Int)) = true) (h2 : (x0.f6 == (0 : Int)) = true) : Does E 73 [.agg (S26.t .far x0), .one (tB true), .one (tB false), .one (tB false), .one (tB false), .one (tB true)] [(false, [tB true])] :=
  Does.path (fn := Try.f73) [.b true, .b true, .b true] [fun _ => (x0.f4.toList == ByteArray.empty.toList) = true, fun _ => (x0.f5 == (0 : Int)) = true, fun _ => (x0.f6 == (0 : Int)) = true] rfl rfl (fun k => by kernel_rfl) ⟨Ev.c h0, Ev.c h1, Ev.c h2, trivial⟩
theorem L73_19 (x0 : S26) (h0 : (x0.f4.toList == ByteArray.empty.toList) = true) (h1 : (x0.f5 == (0 : Int)) = true) (h2 : (x0.f6 == (0 : Int)) = true) : Does E 73 [.agg (S26.t .far x0), .one (tB true), .one (tB false), .one (tB false), .one (tB false), .one (tB false)] [(false, [tB (!x0.f7)])] :=
  Does.path (fn := Try.f73) [.b true, .b true, .b true] [fun _ => (x0.f4.toList == ByteArray.empty.toList) = true, fun _ => (x0.f5 == (0 : Int)) = true, fun _ => (x0.f6 == (0 : Int)) = true] rfl rfl (fun k => by kernel_rfl) ⟨Ev.c h0, Ev.c h1, Ev.c h2, trivial⟩
theorem L73_20 (x0 : S26) (x5 : Bool) (h0 : (x0.f4.toList == ByteArray.empty.toList) = true) (h1 : (x0.f5 == (0 : Int)) = true) (h2 : (x0.f6 == (0 : Int)) = false) : Does E 73 [.agg (S26.t .far x0), .one (tB true), .one (tB false), .one (tB false), .one (tB false), .one (tB x5)] [(false, [tB false])] :=
  Does.path (fn := Try.f73) [.b true, .b true, .b false] [fun _ => (x0.f4.toList == ByteArray.empty.toList) = true, fun _ => (x0.f5 == (0 : Int)) = true, fun _ => (x0.f6 == (0 : Int)) = false] rfl rfl (fun k => by kernel_rfl) ⟨Ev.c h0, Ev.c h1, Ev.c h2, trivial⟩
theorem L73_21 (x0 : S26) (x4 : Bool) (x5 : Bool) (h0 : (x0.f4.toList == ByteArray.empty.toList) = true) (h1 : (x0.f5 == (0 : Int)) = false) : Does E 73 [.agg (S26.t .far x0), .one (tB true), .one (tB false), .one (tB false), .one (tB x4), .one (tB x5)] [(false, [tB false])] :=
  Does.path (fn := Try.f73) [.b true, .b false] [fun _ => (x0.f4.toList == ByteArray.empty.toList) = true, fun _ => (x0.f5 == (0 : Int)) = false] rfl rfl (fun k => by kernel_rfl) ⟨Ev.c h0, Ev.c h1, trivial⟩
theorem L73_22 (x0 : S26) (x3 : Bool) (x4 : Bool) (x5 : Bool) (h0 : (x0.f4.toList == ByteArray.empty.toList) = false) : Does E 73 [.agg (S26.t .far x0), .one (tB true), .one (tB false), .one (tB x3), .one (tB x4), .one (tB x5)] [(false, [tB false])] :=
  Does.path (fn := Try.f73) [.b false] [fun _ => (x0.f4.toList == ByteArray.empty.toList) = false] rfl rfl (fun k => by kernel_rfl) ⟨Ev.c h0, trivial⟩
theorem L73_23 (x0 : S26) (h0 : (x0.f3.toList == ByteArray.empty.toList) = true) : Does E 73 [.agg (S26.t .far x0), .one (tB false), .one (tB true), .one (tB true), .one (tB true), .one (tB true)] [(false, [tB true])] :=
  Does.path (fn := Try.f73) [.b true] [fun _ => (x0.f3.toList == ByteArray.empty.toList) = true] rfl rfl (fun k => by kernel_rfl) ⟨Ev.c h0, trivial⟩
theorem L73_24 (x0 : S26) (h0 : (x0.f3.toList == ByteArray.empty.toList) = true) : Does E 73 [.agg (S26.t .far x0), .one (tB false), .one (tB true), .one (tB true), .one (tB true), .one (tB false)] [(false, [tB (!x0.f7)])] :=
  Does.path (fn := Try.f73) [.b true] [fun _ => (x0.f3.toList == ByteArray.empty.toList) = true] rfl rfl (fun k => by kernel_rfl) ⟨Ev.c h0, trivial⟩
theorem L73_25 (x0 : S26) (h0 : (x0.f3.toList == ByteArray.empty.toList) = true) (h1 : (x0.f6 == (0 : Int)) = true) : Does E 73 [.agg (S26.t .far x0), .one (tB false), .one (tB true), .one (tB true), .one (tB false), .one (tB true)] [(false, [tB true])] :=
  Does.path (fn := Try.f73) [.b true, .b true] [fun _ => (x0.f3.toList == ByteArray.empty.toList) = true, fun _ => (x0.f6 == (0 : Int)) = true] rfl rfl (fun k => by kernel_rfl) ⟨Ev.c h0, Ev.c h1, trivial⟩
theorem L73_26 (x0 : S26) (h0 : (x0.f3.toList == ByteArray.empty.toList) = true) (h1 : (x0.f6 == (0 : Int)) = true) : Does E 73 [.agg (S26.t .far x0), .one (tB false), .one (tB true), .one (tB true), .one (tB false), .one (tB false)] [(false, [tB (!x0.f7)])] :=
  Does.path (fn := Try.f73) [.b true, .b true] [fun _ => (x0.f3.toList == ByteArray.empty.toList) = true, fun _ => (x0.f6 == (0 : Int)) = true] rfl rfl (fun k => by kernel_rfl) ⟨Ev.c h0, Ev.c h1, trivial⟩
theorem L73_27 (x0 : S26) (x5 : Bool) (h0 : (x0.f3.toList == ByteArray.empty.toList) = true) (h1 : (x0.f6 == (0 : Int)) = false) : Does E 73 [.agg (S26.t .far x0), .one (tB false), .one (tB true), .one (tB true), .one (tB false), .one (tB x5)] [(false, [tB false])] :=
  Does.path (fn := Try.f73) [.b true, .b false] [fun _ => (x0.f3.toList == ByteArray.empty.toList) = true, fun _ => (x0.f6 == (0 : Int)) = false] rfl rfl (fun k => by kernel_rfl) ⟨Ev.c h0, Ev.c h1, trivial⟩
theorem L73_28 (x0 : S26) (h0 : (x0.f3.toList == ByteArray.empty.toList) = true) (h1 : (x0.f5 == (0 : Int)) = true) : Does E 73 [.agg (S26.t .far x0), .one (tB false), .one (tB true), .one (tB false), .one (tB true), .one (tB true)] [(false, [tB true])] :=
  Does.path (fn := Try.f73) [.b true, .b true] [fun _ => (x0.f3.toList == ByteArray.empty.toList) = true, fun _ => (x0.f5 == (0 : Int)) = true] rfl rfl (fun k => by kernel_rfl) ⟨Ev.c h0, Ev.c h1, trivial⟩
theorem L73_29 (x0 : S26) (h0 : (x0.f3.toList == ByteArray.empty.toList) = true) (h1 : (x0.f5 == (0 : Int)) = true) : Does E 73 [.agg (S26.t .far x0), .one (tB false), .one (tB true), .one (tB false), .one (tB true), .one (tB false)] [(false, [tB (!x0.f7)])] :=
  Does.path (fn := Try.f73) [.b true, .b true] [fun _ => (x0.f3.toList == ByteArray.empty.toList) = true, fun _ => (x0.f5 == (0 : Int)) = true] rfl rfl (fun k => by kernel_rfl) ⟨Ev.c h0, Ev.c h1, trivial⟩
theorem L73_30 (x0 : S26) (h0 : (x0.f3.toList == ByteArray.empty.toList) = true) (h1 : (x0.f5 == (0 : Int)) = true) (h2 : (x0.f6 == (0 : Int)) = true) : Does E 73 [.agg (S26.t .far x0), .one (tB false), .one (tB true), .one (tB false), .one (tB false), .one (tB true)] [(false, [tB true])] :=
  Does.path (fn := Try.f73) [.b true, .b true, .b true] [fun _ => (x0.f3.toList == ByteArray.empty.toList) = true, fun _ => (x0.f5 == (0 : Int)) = true, fun _ => (x0.f6 == (0 : Int)) = true] rfl rfl (fun k => by kernel_rfl) ⟨Ev.c h0, Ev.c h1, Ev.c h2, trivial⟩
theorem L73_31 (x0 : S26) (h0 : (x0.f3.toList == ByteArray.empty.toList) = true) (h1 : (x0.f5 == (0 : Int)) = true) (h2 : (x0.f6 == (0 : Int)) = true) : Does E 73 [.agg (S26.t .far x0), .one (tB false), .one (tB true), .one (tB false), .one (tB false), .one (tB false)] [(false, [tB (!x0.f7)])] :=
  Does.path (fn := Try.f73) [.b true, .b true, .b true] [fun _ => (x0.f3.toList == ByteArray.empty.toList) = true, fun _ => (x0.f5 == (0 : Int)) = true, fun _ => (x0.f6 == (0 : Int)) = true] rfl rfl (fun k => by kernel_rfl) ⟨Ev.c h0, Ev.c h1, Ev.c h2, trivial⟩
theorem L73_32 (x0 : S26) (x5 : Bool) (h0 : (x0.f3.toList == ByteArray.empty.toList) = true) (h1 : (x0.f5 == (0 : Int)) = true) (h2 : (x0.f6 == (0 : Int)) = false) : Does E 73 [.agg (S26.t .far x0), .one (tB false), .one (tB true), .one (tB false), .one (tB false), .one (tB x5)] [(false, [tB false])] :=
  Does.path (fn := Try.f73) [.b true, .b true, .b false] [fun _ => (x0.f3.toList == ByteArray.empty.toList) = true, fun _ => (x0.f5 == (0 : Int)) = true, fun _ => (x0.f6 == (0 : Int)) = false] rfl rfl (fun k => by kernel_rfl) ⟨Ev.c h0, Ev.c h1, Ev.c h2, trivial⟩
theorem L73_33 (x0 : S26) (x4 : Bool) (x5 : Bool) (h0 : (x0.f3.toList == ByteArray.empty.toList) = true) (h1 : (x0.f5 == (0 : Int)) = false) : Does E 73 [.agg (S26.t .far x0), .one (tB false), .one (tB true), .one (tB false), .one (tB x4), .one (tB x5)] [(false, [tB false])] :=
  Does.path (fn := Try.f73) [.b true, .b false] [fun _ => (x0.f3.toList == ByteArray.empty.toList) = true, fun _ => (x0.f5 == (0 : Int)) = false] rfl rfl (fun k => by kernel_rfl) ⟨Ev.c h0, Ev.c h1, trivial⟩
theorem L73_34 (x0 : S26) (h0 : (x0.f3.toList == ByteArray.empty.toList) = true) (h1 : (x0.f4.toList == ByteArray.empty.toList) = true) : Does E 73 [.agg (S26.t .far x0), .one (tB false), .one (tB false), .one (tB true), .one (tB true), .one (tB true)] [(false, [tB true])] :=
  Does.path (fn := Try.f73) [.b true, .b true] [fun _ => (x0.f3.toList == ByteArray.empty.toList) = true, fun _ => (x0.f4.toList == ByteArray.empty.toList) = true] rfl rfl (fun k => by kernel_rfl) ⟨Ev.c h0, Ev.c h1, trivial⟩
theorem L73_35 (x0 : S26) (h0 : (x0.f3.toList == ByteArray.empty.toList) = true) (h1 : (x0.f4.toList == ByteArray.empty.toList) = true) : Does E 73 [.agg (S26.t .far x0), .one (tB false), .one (tB false), .one (tB true), .one (tB true), .one (tB false)] [(false, [tB (!x0.f7)])] :=
  Does.path (fn := Try.f73) [.b true, .b true] [fun _ => (x0.f3.toList == ByteArray.empty.toList) = true, fun _ => (x0.f4.toList == ByteArray.empty.toList) = true] rfl rfl (fun k => by kernel_rfl) ⟨Ev.c h0, Ev.c h1, trivial⟩
theorem L73_36 (x0 : S26) (h0 : (x0.f3.toList == ByteArray.empty.toList) = true) (h1 : (x0.f4.toList == ByteArray.empty.toList) = true) (h2 : (x0.f6 == (0 : Int)) = true) : Does E 73 [.agg (S26.t .far x0), .one (tB false), .one (tB false), .one (tB true), .one (tB false), .one (tB true)] [(false, [tB true])] :=
  Does.path (fn := Try.f73) [.b true, .b true, .b true] [fun _ => (x0.f3.toList == ByteArray.empty.toList) = true, fun _ => (x0.f4.toList == ByteArray.empty.toList) = true, fun _ => (x0.f6 == (0 : Int)) = true] rfl rfl (fun k => by kernel_rfl) ⟨Ev.c h0, Ev.c h1, Ev.c h2, trivial⟩
theorem L73_37 (x0 : S26) (h0 : (x0.f3.toList == ByteArray.empty.toList) = true) (h1 : (x0.f4.toList == ByteArray.empty.toList) = true) (h2 : (x0.f6 == (0 : Int)) = true) : Does E 73 [.agg (S26.t .far x0), .one (tB false), .one (tB false), .one (tB true), .one (tB false), .one (tB false)] [(false, [tB (!x0.f7)])] :=
  Does.path (fn := Try.f73) [.b true, .b true, .b true] [fun _ => (x0.f3.toList == ByteArray.empty.toList) = true, fun _ => (x0.f4.toList == ByteArray.empty.toList) = true, fun _ => (x0.f6 == (0 : Int)) = true] rfl rfl (fun k => by kernel_rfl) ⟨Ev.c h0, Ev.c h1, Ev.c h2, trivial⟩
theorem L73_38 (x0 : S26) (x5 : Bool) (h0 : (x0.f3.toList == ByteArray.empty.toList) = true) (h1 : (x0.f4.toList == ByteArray.empty.toList) = true) (h2 : (x0.f6 == (0 : Int)) = false) : Does E 73 [.agg (S26.t .far x0), .one (tB false), .one (tB false), .one (tB true), .one (tB false), .one (tB x5)] [(false, [tB false])] :=
  Does.path (fn := Try.f73) [.b true, .b true, .b false] [fun _ => (x0.f3.toList == ByteArray.empty.toList) = true, fun _ => (x0.f4.toList == ByteArray.empty.toList) = true, fun _ => (x0.f6 == (0 : Int)) = false] rfl rfl (fun k => by kernel_rfl) ⟨Ev.c h0, Ev.c h1, Ev.c h2, trivial⟩
theorem L73_39 (x0 : S26) (h0 : (x0.f3.toList == ByteArray.empty.toList) = true) (h1 : (x0.f4.toList == ByteArray.empty.toList) = true) (h2 : (x0.f5 == (0 : Int)) = true) : Does E 73 [.agg (S26.t .far x0), .one (tB false), .one (tB false), .one (tB false), .one (tB true), .one (tB true)] [(false, [tB true])] :=
  Does.path (fn := Try.f73) [.b true, .b true, .b true] [fun _ => (x0.f3.toList == ByteArray.empty.toList) = true, fun _ => (x0.f4.toList == ByteArray.empty.toList) = true, fun _ => (x0.f5 == (0 : Int)) = true] rfl rfl (fun k => by kernel_rfl) ⟨Ev.c h0, Ev.c h1, Ev.c h2, trivial⟩
theorem L73_40 (x0 : S26) (h0 : (x0.f3.toList == ByteArray.empty.toList) = true) (h1 : (x0.f4.toList == ByteArray.empty.toList) = true) (h2 : (x0.f5 == (0 : Int)) = true) : Does E 73 [.agg (S26.t .far x0), .one (tB false), .one (tB false), .one (tB false), .one (tB true), .one (tB false)] [(false, [tB (!x0.f7)])] :=
  Does.path (fn := Try.f73) [.b true, .b true, .b true] [fun _ => (x0.f3.toList == ByteArray.empty.toList) = true, fun _ => (x0.f4.toList == ByteArray.empty.toList) = true, fun _ => (x0.f5 == (0 : Int)) = true] rfl rfl (fun k => by kernel_rfl) ⟨Ev.c h0, Ev.c h1, Ev.c h2, trivial⟩
theorem L73_41 (x0 : S26) (h0 : (x0.f3.toList == ByteArray.empty.toList) = true) (h1 : (x0.f4.toList == ByteArray.empty.toList) = true) (h2 : (x0.f5 == (0 : Int)) = true) (h3 : (x0.f6 == (0 : Int)) = true) : Does E 73 [.agg (S26.t .far x0), .one (tB false), .one (tB false), .one (tB false), .one (tB false), .one (tB true)] [(false, [tB true])] :=
  Does.path (fn := Try.f73) [.b true, .b true, .b true, .b true] [fun _ => (x0.f3.toList == ByteArray.empty.toList) = true, fun _ => (x0.f4.toList == ByteArray.empty.toList) = true, fun _ => (x0.f5 == (0 : Int)) = true, fun _ => (x0.f6 == (0 : Int)) = true] rfl rfl (fun k => by kernel_rfl) ⟨Ev.c h0, Ev.c h1, Ev.c h2, Ev.c h3, trivial⟩
theorem L73_42 (x0 : S26) (h0 : (x0.f3.toList == ByteArray.empty.toList) = true) (h1 : (x0.f4.toList == ByteArray.empty.toList) = true) (h2 : (x0.f5 == (0 : Int)) = true) (h3 : (x0.f6 == (0 : Int)) = true) : Does E 73 [.agg (S26.t .far x0), .one (tB false), .one (tB false), .one (tB false), .one (tB false), .one (tB false)] [(false, [tB (!x0.f7)])] :=
  Does.path (fn := Try.f73) [.b true, .b true, .b true, .b true] [fun _ => (x0.f3.toList == ByteArray.empty.toList) = true, fun _ => (x0.f4.toList == ByteArray.empty.toList) = true, fun _ => (x0.f5 == (0 : Int)) = true, fun _ => (x0.f6 == (0 : Int)) = true] rfl rfl (fun k => by kernel_rfl) ⟨Ev.c h0, Ev.c h1, Ev.c h2, Ev.c h3, trivial⟩
theorem L73_43 (x0 : S26) (x5 : Bool) (h0 : (x0.f3.toList == ByteArray.empty.toList) = true) (h1 : (x0.f4.toList == ByteArray.empty.toList) = true) (h2 : (x0.f5 == (0 : Int)) = true) (h3 : (x0.f6 == (0 : Int)) = false) : Does E 73 [.agg (S26.t .far x0), .one (tB false), .one (tB false), .one (tB false), .one (tB false), .one (tB x5)] [(false, [tB false])] :=
  Does.path (fn := Try.f73) [.b true, .b true, .b true, .b false] [fun _ => (x0.f3.toList == ByteArray.empty.toList) = true, fun _ => (x0.f4.toList == ByteArray.empty.toList) = true, fun _ => (x0.f5 == (0 : Int)) = true, fun _ => (x0.f6 == (0 : Int)) = false] rfl rfl (fun k => by kernel_rfl) ⟨Ev.c h0, Ev.c h1, Ev.c h2, Ev.c h3, trivial⟩
theorem L73_44 (x0 : S26) (x4 : Bool) (x5 : Bool) (h0 : (x0.f3.toList == ByteArray.empty.toList) = true) (h1 : (x0.f4.toList == ByteArray.empty.toList) = true) (h2 : (x0.f5 == (0 : Int)) = false) : Does E 73 [.agg (S26.t .far x0), .one (tB false), .one (tB false), .one (tB false), .one (tB x4), .one (tB x5)] [(false, [tB false])] :=
  Does.path (fn := Try.f73) [.b true, .b true, .b false] [fun _ => (x0.f3.toList == ByteArray.empty.toList) = true, fun _ => (x0.f4.toList == ByteArray.empty.toList) = true, fun _ => (x0.f5 == (0 : Int)) = false] rfl rfl (fun k => by kernel_rfl) ⟨Ev.c h0, Ev.c h1, Ev.c h2, trivial⟩
theorem L73_45 (x0 : S26) (x3 : Bool) (x4 : Bool) (x5 : Bool) (h0 : (x0.f3.toList == ByteArray.empty.toList) = true) (h1 : (x0.f4.toList == ByteArray.empty.toList) = false) : Does E 73 [.agg (S26.t .far x0), .one (tB false), .one (tB false), .one (tB x3), .one (tB x4), .one (tB x5)] [(false, [tB false])] :=
  Does.path (fn := Try.f73) [.b true, .b false] [fun _ => (x0.f3.toList == ByteArray.empty.toList) = true, fun _ => (x0.f4.toList == ByteArray.empty.toList) = false] rfl rfl (fun k => by kernel_rfl) ⟨Ev.c h0, Ev.c h1, trivial⟩
theorem L73_46 (x0 : S26) (x2 : Bool) (x3 : Bool) (x4 : Bool) (x5 : Bool) (h0 : (x0.f3.toList == ByteArray.empty.toList) = false) : Does E 73 [.agg (S26.t .far x0), .one (tB false), .one (tB x2), .one (tB x3), .one (tB x4), .one (tB x5)] [(false, [tB false])] :=
  Does.path (fn := Try.f73) [.b false] [fun _ => (x0.f3.toList == ByteArray.empty.toList) = false] rfl rfl (fun k => by kernel_rfl) ⟨Ev.c h0, trivial⟩
def sem73 (x0 : S26) (x1 : Bool) (x2 : Bool) (x3 : Bool) (x4 : Bool) (x5 : Bool) : Option (Bool) :=
    match x1 with
      | true => match x2 with
        | true => match x3 with
          | true => match x4 with
            | true => match x5 with
              | true => some (true)
              | false => some (!x0.f7)
            | false => match x5 with
              | true => cond (x0.f6 == (0 : Int))
                (some (true))
                (some (false))
              | false => cond (x0.f6 == (0 : Int))
                (some (!x0.f7))
                (some (false))
          | false => match x4 with
            | true => match x5 with
              | true => cond (x0.f5 == (0 : Int))
                (some (true))
                (some (false))
              | false => cond (x0.f5 == (0 : Int))
                (some (!x0.f7))
                (some (false))
            | false => match x5 with
              | true => cond (x0.f5 == (0 : Int))
                (cond (x0.f6 == (0 : Int))
                  (some (true))
                  (some (false)))
                (some (false))
              | false => cond (x0.f5 == (0 : Int))
                (cond (x0.f6 == (0 : Int))
                  (some (!x0.f7))
                  (some (false)))
                (some (false))
        | false => match x3 with
          | true => match x4 with
            | true => match x5 with
              | true => cond (x0.f4.toList == ByteArray.empty.toList)
                (some (true))
                (some (false))
              | false => cond (x0.f4.toList == ByteArray.empty.toList)
                (some (!x0.f7))
                (some (false))
            | false => match x5 with
              | true => cond (x0.f4.toList == ByteArray.empty.toList)
                (cond (x0.f6 == (0 : Int))
                  (some (true))
                  (some (false)))
                (some (false))
              | false => cond (x0.f4.toList == ByteArray.empty.toList)
                (cond (x0.f6 == (0 : Int))
                  (some (!x0.f7))
                  (some (false)))
                (some (false))
          | false => match x4 with
            | true => match x5 with
              | true => cond (x0.f4.toList == ByteArray.empty.toList)
                (cond (x0.f5 == (0 : Int))
                  (some (true))
                  (some (false)))
                (some (false))
              | false => cond (x0.f4.toList == ByteArray.empty.toList)
                (cond (x0.f5 == (0 : Int))
                  (some (!x0.f7))
                  (some (false)))
                (some (false))
            | false => match x5 with
              | true => cond (x0.f4.toList == ByteArray.empty.toList)
                (cond (x0.f5 == (0 : Int))
                  (cond (x0.f6 == (0 : Int))
                    (some (true))
                    (some (false)))
                  (some (false)))
                (some (false))
              | false => cond (x0.f4.toList == ByteArray.empty.toList)
                (cond (x0.f5 == (0 : Int))
                  (cond (x0.f6 == (0 : Int))
                    (some (!x0.f7))
                    (some (false)))
                  (some (false)))
                (some (false))
      | false => match x2 with
        | true => match x3 with
          | true => match x4 with
            | true => match x5 with
              | true => cond (x0.f3.toList == ByteArray.empty.toList)
                (some (true))
                (some (false))
              | false => cond (x0.f3.toList == ByteArray.empty.toList)
                (some (!x0.f7))
                (some (false))
            | false => match x5 with
              | true => cond (x0.f3.toList == ByteArray.empty.toList)
                (cond (x0.f6 == (0 : Int))
                  (some (true))
                  (some (false)))
                (some (false))
              | false => cond (x0.f3.toList == ByteArray.empty.toList)
                (cond (x0.f6 == (0 : Int))
                  (some (!x0.f7))
                  (some (false)))
                (some (false))
          | false => match x4 with
            | true => match x5 with
              | true => cond (x0.f3.toList == ByteArray.empty.toList)
                (cond (x0.f5 == (0 : Int))
                  (some (true))
                  (some (false)))
                (some (false))
              | false => cond (x0.f3.toList == ByteArray.empty.toList)
                (cond (x0.f5 == (0 : Int))
                  (some (!x0.f7))
                  (some (false)))
                (some (false))
            | false => match x5 with
              | true => cond (x0.f3.toList == ByteArray.empty.toList)
                (cond (x0.f5 == (0 : Int))
                  (cond (x0.f6 == (0 : Int))
                    (some (true))
                    (some (false)))
                  (some (false)))
                (some (false))
              | false => cond (x0.f3.toList == ByteArray.empty.toList)
                (cond (x0.f5 == (0 : Int))
                  (cond (x0.f6 == (0 : Int))
                    (some (!x0.f7))
                    (some (false)))
                  (some (false)))
                (some (false))
        | false => match x3 with
          | true => match x4 with
            | true => match x5 with
              | true => cond (x0.f3.toList == ByteArray.empty.toList)
                (cond (x0.f4.toList == ByteArray.empty.toList)
                  (some (true))
                  (some (false)))
                (some (false))
              | false => cond (x0.f3.toList == ByteArray.empty.toList)
                (cond (x0.f4.toList == ByteArray.empty.toList)
                  (some (!x0.f7))
                  (some (false)))
                (some (false))
            | false => match x5 with
              | true => cond (x0.f3.toList == ByteArray.empty.toList)
                (cond (x0.f4.toList == ByteArray.empty.toList)
                  (cond (x0.f6 == (0 : Int))
                    (some (true))
                    (some (false)))
                  (some (false)))
                (some (false))
              | false => cond (x0.f3.toList == ByteArray.empty.toList)
                (cond (x0.f4.toList == ByteArray.empty.toList)
                  (cond (x0.f6 == (0 : Int))
                    (some (!x0.f7))
                    (some (false)))
                  (some (false)))
                (some (false))
          | false => match x4 with
            | true => match x5 with
              | true => cond (x0.f3.toList == ByteArray.empty.toList)
                (cond (x0.f4.toList == ByteArray.empty.toList)
                  (cond (x0.f5 == (0 : Int))
                    (some (true))
                    (some (false)))
                  (some (false)))
                (some (false))
              | false => cond (x0.f3.toList == ByteArray.empty.toList)
                (cond (x0.f4.toList == ByteArray.empty.toList)
                  (cond (x0.f5 == (0 : Int))
                    (some (!x0.f7))
                    (some (false)))
                  (some (false)))
                (some (false))
            | false => match x5 with
              | true => cond (x0.f3.toList == ByteArray.empty.toList)
                (cond (x0.f4.toList == ByteArray.empty.toList)
                  (cond (x0.f5 == (0 : Int))
                    (cond (x0.f6 == (0 : Int))
                      (some (true))
                      (some (false)))
                    (some (false)))
                  (some (false)))
                (some (false))
              | false => cond (x0.f3.toList == ByteArray.empty.toList)
                (cond (x0.f4.toList == ByteArray.empty.toList)
                  (cond (x0.f5 == (0 : Int))
                    (cond (x0.f6 == (0 : Int))
                      (some (!x0.f7))
                      (some (false)))
                    (some (false)))
                  (some (false)))
                (some (false))
theorem D73 (x0 : S26) (x1 : Bool) (x2 : Bool) (x3 : Bool) (x4 : Bool) (x5 : Bool) : Ans (sem73 x0 x1 x2 x3 x4 x5) (fun r => Does E 73 [.agg (S26.t .far x0), .one (tB x1), .one (tB x2), .one (tB x3), .one (tB x4), .one (tB x5)] [(false, [tB r])]) := by
  unfold sem73
  cases x1 with
  | true =>
    cases x2 with
    | true =>
      cases x3 with
      | true =>
        cases x4 with
        | true =>
          cases x5 with
          | true =>
            exact Ans.some (L73_0 x0)
          | false =>
            exact Ans.some (L73_1 x0)
        | false =>
          cases x5 with
          | true =>
            refine Ans.ite (fun h0 => ?_) (fun h0 => ?_)
            · exact Ans.some (L73_2 x0 h0)
            · exact Ans.some (L73_4 x0 true h0)
          | false =>
            refine Ans.ite (fun h0 => ?_) (fun h0 => ?_)
            · exact Ans.some (L73_3 x0 h0)
            · exact Ans.some (L73_4 x0 false h0)
      | false =>
        cases x4 with
        | true =>
          cases x5 with
          | true =>
            refine Ans.ite (fun h0 => ?_) (fun h0 => ?_)
            · exact Ans.some (L73_5 x0 h0)
            · exact Ans.some (L73_10 x0 true true h0)
          | false =>
            refine Ans.ite (fun h0 => ?_) (fun h0 => ?_)
            · exact Ans.some (L73_6 x0 h0)
            · exact Ans.some (L73_10 x0 true false h0)
        | false =>
          cases x5 with
          | true =>
            refine Ans.ite (fun h0 => ?_) (fun h0 => ?_)
            · refine Ans.ite (fun h1 => ?_) (fun h1 => ?_)
              · exact Ans.some (L73_7 x0 h0 h1)
              · exact Ans.some (L73_9 x0 true h0 h1)
            · exact Ans.some (L73_10 x0 false true h0)
          | false =>
            refine Ans.ite (fun h0 => ?_) (fun h0 => ?_)
            · refine Ans.ite (fun h1 => ?_) (fun h1 => ?_)
              · exact Ans.some (L73_8 x0 h0 h1)
              · exact Ans.some (L73_9 x0 false h0 h1)
            · exact Ans.some (L73_10 x0 false false h0)
    | false =>
      cases x3 with
      | true =>
        cases x4 with
        | true =>
          cases x5 with
          | true =>
            refine Ans.ite (fun h0 => ?_) (fun h0 => ?_)
            · exact Ans.some (L73_11 x0 h0)
            · exact Ans.some (L73_22 x0 true true true h0)
          | false =>
            refine Ans.ite (fun h0 => ?_) (fun h0 => ?_)
            · exact Ans.some (L73_12 x0 h0)
            · exact Ans.some (L73_22 x0 true true false h0)
        | false =>
          cases x5 with
          | true =>
            refine Ans.ite (fun h0 => ?_) (fun h0 => ?_)
            · refine Ans.ite (fun h1 => ?_) (fun h1 => ?_)
              · exact Ans.some (L73_13 x0 h0 h1)
              · exact Ans.some (L73_15 x0 true h0 h1)
            · exact Ans.some (L73_22 x0 true false true h0)
          | false =>
            refine Ans.ite (fun h0 => ?_) (fun h0 => ?_)
            · refine Ans.ite (fun h1 => ?_) (fun h1 => ?_)
              · exact Ans.some (L73_14 x0 h0 h1)
              · exact Ans.some (L73_15 x0 false h0 h1)
            · exact Ans.some (L73_22 x0 true false false h0)
      | false =>
        cases x4 with
        | true =>
          cases x5 with
          | true =>
            refine Ans.ite (fun h0 => ?_) (fun h0 => ?_)
            · refine Ans.ite (fun h1 => ?_) (fun h1 => ?_)
              · exact Ans.some (L73_16 x0 h0 h1)
              · exact Ans.some (L73_21 x0 true true h0 h1)
            · exact Ans.some (L73_22 x0 false true true h0)
          | false =>
            refine Ans.ite (fun h0 => ?_) (fun h0 => ?_)
            · refine Ans.ite (fun h1 => ?_) (fun h1 => ?_)
              · exact Ans.some (L73_17 x0 h0 h1)
              · exact Ans.some (L73_21 x0 true false h0 h1)
            · exact Ans.some (L73_22 x0 false true false h0)
        | false =>
          cases x5 with
          | true =>
            refine Ans.ite (fun h0 => ?_) (fun h0 => ?_)
            · refine Ans.ite (fun h1 => ?_) (fun h1 => ?_)
              · refine Ans.ite (fun h2 => ?_) (fun h2 => ?_)
                · exact Ans.some (L73_18 x0 h0 h1 h2)
                · exact Ans.some (L73_20 x0 true h0 h1 h2)
              · exact Ans.some (L73_21 x0 false true h0 h1)
            · exact Ans.some (L73_22 x0 false false true h0)
          | false =>
            refine Ans.ite (fun h0 => ?_) (fun h0 => ?_)
            · refine Ans.ite (fun h1 => ?_) (fun h1 => ?_)
              · refine Ans.ite (fun h2 => ?_) (fun h2 => ?_)
                · exact Ans.some (L73_19 x0 h0 h1 h2)
                · exact Ans.some (L73_20 x0 false h0 h1 h2)
              · exact Ans.some (L73_21 x0 false false h0 h1)
            · exact Ans.some (L73_22 x0 false false false h0)
  | false =>
    cases x2 with
    | true =>
      cases x3 with
      | true =>
        cases x4 with
        | true =>
          cases x5 with
          | true =>
            refine Ans.ite (fun h0 => ?_) (fun h0 => ?_)
            · exact Ans.some (L73_23 x0 h0)
            · exact Ans.some (L73_46 x0 true true true true h0)
          | false =>
            refine Ans.ite (fun h0 => ?_) (fun h0 => ?_)
            · exact Ans.some (L73_24 x0 h0)
            · exact Ans.some (L73_46 x0 true true true false h0)
        | false =>
          cases x5 with
          | true =>
            refine Ans.ite (fun h0 => ?_) (fun h0 => ?_)
            · refine Ans.ite (fun h1 => ?_) (fun h1 => ?_)
              · exact Ans.some (L73_25 x0 h0 h1)
              · exact Ans.some (L73_27 x0 true h0 h1)
            · exact Ans.some (L73_46 x0 true true false true h0)
          | false =>
            refine Ans.ite (fun h0 => ?_) (fun h0 => ?_)
            · refine Ans.ite (fun h1 => ?_) (fun h1 => ?_)
              · exact Ans.some (L73_26 x0 h0 h1)
              · exact Ans.some (L73_27 x0 false h0 h1)
            · exact Ans.some (L73_46 x0 true true false false h0)
      | false =>
        cases x4 with
        | true =>
          cases x5 with
          | true =>
            refine Ans.ite (fun h0 => ?_) (fun h0 => ?_)
            · refine Ans.ite (fun h1 => ?_) (fun h1 => ?_)
              · exact Ans.some (L73_28 x0 h0 h1)
              · exact Ans.some (L73_33 x0 true true h0 h1)
            · exact Ans.some (L73_46 x0 true false true true h0)
          | false =>
            refine Ans.ite (fun h0 => ?_) (fun h0 => ?_)
            · refine Ans.ite (fun h1 => ?_) (fun h1 => ?_)
              · exact Ans.some (L73_29 x0 h0 h1)
              · exact Ans.some (L73_33 x0 true false h0 h1)
            · exact Ans.some (L73_46 x0 true false true false h0)
        | false =>
          cases x5 with
          | true =>
            refine Ans.ite (fun h0 => ?_) (fun h0 => ?_)
            · refine Ans.ite (fun h1 => ?_) (fun h1 => ?_)
              · refine Ans.ite (fun h2 => ?_) (fun h2 => ?_)
                · exact Ans.some (L73_30 x0 h0 h1 h2)
                · exact Ans.some (L73_32 x0 true h0 h1 h2)
              · exact Ans.some (L73_33 x0 false true h0 h1)
            · exact Ans.some (L73_46 x0 true false false true h0)
          | false =>
            refine Ans.ite (fun h0 => ?_) (fun h0 => ?_)
            · refine Ans.ite (fun h1 => ?_) (fun h1 => ?_)
              · refine Ans.ite (fun h2 => ?_) (fun h2 => ?_)
                · exact Ans.some (L73_31 x0 h0 h1 h2)
                · exact Ans.some (L73_32 x0 false h0 h1 h2)
              · exact Ans.some (L73_33 x0 false false h0 h1)
            · exact Ans.some (L73_46 x0 true false false false h0)
    | false =>
      cases x3 with
      | true =>
        cases x4 with
        | true =>
          cases x5 with
          | true =>
            refine Ans.ite (fun h0 => ?_) (fun h0 => ?_)
            · refine Ans.ite (fun h1 => ?_) (fun h1 => ?_)
              · exact Ans.some (L73_34 x0 h0 h1)
              · exact Ans.some (L73_45 x0 true true true h0 h1)
            · exact Ans.some (L73_46 x0 false true true true h0)
          | false =>
            refine Ans.ite (fun h0 => ?_) (fun h0 => ?_)
            · refine Ans.ite (fun h1 => ?_) (fun h1 => ?_)
              · exact Ans.some (L73_35 x0 h0 h1)
              · exact Ans.some (L73_45 x0 true true false h0 h1)
            · exact Ans.some (L73_46 x0 false true true false h0)
        | false =>
          cases x5 with
          | true =>
            refine Ans.ite (fun h0 => ?_) (fun h0 => ?_)
            · refine Ans.ite (fun h1 => ?_) (fun h1 => ?_)
              · refine Ans.ite (fun h2 => ?_) (fun h2 => ?_)
                · exact Ans.some (L73_36 x0 h0 h1 h2)
                · exact Ans.some (L73_38 x0 true h0 h1 h2)
              · exact Ans.some (L73_45 x0 true false true h0 h1)
            · exact Ans.some (L73_46 x0 false true false true h0)
          | false =>
            refine Ans.ite (fun h0 => ?_) (fun h0 => ?_)
            · refine Ans.ite (fun h1 => ?_) (fun h1 => ?_)
              · refine Ans.ite (fun h2 => ?_) (fun h2 => ?_)
                · exact Ans.some (L73_37 x0 h0 h1 h2)
                · exact Ans.some (L73_38 x0 false h0 h1 h2)
              · exact Ans.some (L73_45 x0 true false false h0 h1)
            · exact Ans.some (L73_46 x0 false true false false h0)
      | false =>
        cases x4 with
        | true =>
          cases x5 with
          | true =>
            refine Ans.ite (fun h0 => ?_) (fun h0 => ?_)
            · refine Ans.ite (fun h1 => ?_) (fun h1 => ?_)
              · refine Ans.ite (fun h2 => ?_) (fun h2 => ?_)
                · exact Ans.some (L73_39 x0 h0 h1 h2)
                · exact Ans.some (L73_44 x0 true true h0 h1 h2)
              · exact Ans.some (L73_45 x0 false true true h0 h1)
            · exact Ans.some (L73_46 x0 false false true true h0)
          | false =>
            refine Ans.ite (fun h0 => ?_) (fun h0 => ?_)
            · refine Ans.ite (fun h1 => ?_) (fun h1 => ?_)
              · refine Ans.ite (fun h2 => ?_) (fun h2 => ?_)
                · exact Ans.some (L73_40 x0 h0 h1 h2)
                · exact Ans.some (L73_44 x0 true false h0 h1 h2)
              · exact Ans.some (L73_45 x0 false true false h0 h1)
            · exact Ans.some (L73_46 x0 false false true false h0)
        | false =>
          cases x5 with
          | true =>
            refine Ans.ite (fun h0 => ?_) (fun h0 => ?_)
            · refine Ans.ite (fun h1 => ?_) (fun h1 => ?_)
              · refine Ans.ite (fun h2 => ?_) (fun h2 => ?_)
                · refine Ans.ite (fun h3 => ?_) (fun h3 => ?_)
                  · exact Ans.some (L73_41 x0 h0 h1 h2 h3)
                  · exact Ans.some (L73_43 x0 true h0 h1 h2 h3)
                · exact Ans.some (L73_44 x0 false true h0 h1 h2)
              · exact Ans.some (L73_45 x0 false false true h0 h1)
            · exact Ans.some (L73_46 x0 false false false true h0)
          | false =>
            refine Ans.ite (fun h0 => ?_) (fun h0 => ?_)
            · refine Ans.ite (fun h1 => ?_) (fun h1 => ?_)
              · refine Ans.ite (fun h2 => ?_) (fun h2 => ?_)
                · refine Ans.ite (fun h3 => ?_) (fun h3 => ?_)
                  · exact Ans.some (L73_42 x0 h0 h1 h2 h3)
                  · exact Ans.some (L73_43 x0 false h0 h1 h2 h3)
                · exact Ans.some (L73_44 x0 false false h0 h1 h2)
              · exact Ans.some (L73_45 x0 false false false h0 h1)
            · exact Ans.some (L73_46 x0 false false false false h0)
theorem T73 (c : S26) (a b d e f : Bool) : Does E 73 [.agg (S26.t .far c), .one (tB a), .one (tB b), .one (tB d), .one (tB e), .one (tB f)] [(false, [tB (rest c a b d e f)])] :=
  D73 c a b d e f _ (by
    unfold sem73 rest
    cases a <;> cases b <;> cases d <;> cases e <;> cases f <;> simp only [Bool.true_or, Bool.false_or, Bool.true_and] <;>
      (generalize (c.f3.toList == ByteArray.empty.toList) = p; generalize (c.f4.toList == ByteArray.empty.toList) = q; generalize (c.f5 == 0) = r; generalize (c.f6 == 0) = s; generalize c.f7 = t
       cases p <;> cases q <;> cases r <;> cases s <;> cases t <;> rfl))
end Go.Proofs.Ytbphhigmepdohaa.Am
namespace Go.Proofs.Ytbphhigmepdohaa.Am
set_option linter.unusedVariables false
set_option linter.unusedSimpArgs false
open Go Go.Proofs
set_option maxRecDepth 100000
set_option linter.unusedVariables false
/-- A letter, or a figure that is not the first. -/
def okAt (s : ByteArray) (i : Nat) : Bool :=
  (decide (bytAt s i ≥ 97) && decide (bytAt s i ≤ 122)) || (decide (0 < i) && (decide (bytAt s i ≥ 48) && decide (bytAt s i ≤ 57)))
def allFrom (s : ByteArray) (i : Nat) : Nat → Bool
  | 0 => true
  | d + 1 => okAt s i && allFrom s (i + 1) d
def nameOk (s : ByteArray) : Bool := inRange s.size 1 8 && allFrom s 0 s.size
-- function 20: loop.example/g00188/impl.NameOk
inductive X20_0 where
  | ret (v2 : Bool)
  | x0 
def loop20_0 : Nat → ByteArray → Int → Option X20_0
  | 0, _, _ => none
  | n + 1, v0, v3 => cond (decide (v3 < (v0.size : Int)))
    (if 0 ≤ v3 ∧ v3 < (v0.size : Int) then cond (decide ((bytAt v0 v3) ≥ (97 : Int)))
      (cond (decide ((bytAt v0 v3) ≤ (122 : Int)))
        (loop20_0 n v0 (IntKind.wrap .i64 (v3 + (1 : Int))))
        (cond (v3 == (0 : Int))
          (some (.ret false))
          (cond (decide ((bytAt v0 v3) < (48 : Int)))
            (some (.ret false))
            (cond (decide ((bytAt v0 v3) > (57 : Int)))
              (some (.ret false))
              (loop20_0 n v0 (IntKind.wrap .i64 (v3 + (1 : Int))))))))
      (cond (v3 == (0 : Int))
        (some (.ret false))
        (cond (decide ((bytAt v0 v3) < (48 : Int)))
          (some (.ret false))
          (cond (decide ((bytAt v0 v3) > (57 : Int)))
            (some (.ret false))
            (loop20_0 n v0 (IntKind.wrap .i64 (v3 + (1 : Int))))))) else none)
    (some (.x0))
def Q20_0 (v0 : ByteArray) (v3 : Int) : X20_0 → Prop
  | .ret zv2 => Loops E 20 (lpAt Try.f20 0) (stL 42 [(0, .one (tS v0)), (3, .one (tI v3))]) .ret (stL 42 [(2, .one (tB zv2))])
  | .x0 => Loops E 20 (lpAt Try.f20 0) (stL 42 [(0, .one (tS v0)), (3, .one (tI v3))]) (.exit 0) (stL 42 [(0, .one (tS v0))])
theorem R20_0_0 (v0 : ByteArray) (v3 : Int) (h0 : (decide (v3 < (v0.size : Int))) = true) (h1 : 0 ≤ v3 ∧ v3 < (v0.size : Int)) (h2 : (decide ((bytAt v0 v3) ≥ (97 : Int))) = true) (h3 : (decide ((bytAt v0 v3) ≤ (122 : Int))) = true) : Round E 20 (lpAt Try.f20 0) (stL 42 [(0, .one (tS v0)), (3, .one (tI v3))]) .normal (stL 42 [(0, .one (tS v0)), (3, .one (tI (IntKind.wrap .i64 (v3 + (1 : Int)))))]) :=
  Round.path [.b true, .b true, .b true] [fun _ => (decide (v3 < (v0.size : Int))) = true, fun _ => 0 ≤ v3 ∧ v3 < (v0.size : Int), fun _ => (decide ((bytAt v0 v3) ≥ (97 : Int))) = true, fun _ => 0 ≤ v3 ∧ v3 < (v0.size : Int), fun _ => (decide ((bytAt v0 v3) ≤ (122 : Int))) = true] (fun k => by kernel_rfl) ⟨Ev.c h0, Ev.c h1, Ev.c h2, Ev.c h1, Ev.c h3, trivial⟩
theorem R20_0_1 (v0 : ByteArray) (v3 : Int) (h0 : (decide (v3 < (v0.size : Int))) = true) (h1 : 0 ≤ v3 ∧ v3 < (v0.size : Int)) (h2 : (decide ((bytAt v0 v3) ≥ (97 : Int))) = true) (h3 : (decide ((bytAt v0 v3) ≤ (122 : Int))) = false) (h4 : (v3 == (0 : Int)) = true) : Round E 20 (lpAt Try.f20 0) (stL 42 [(0, .one (tS v0)), (3, .one (tI v3))]) .ret (stL 42 [(2, .one (tB false))]) :=
  Round.path [.b true, .b true, .b false, .b true] [fun _ => (decide (v3 < (v0.size : Int))) = true, fun _ => 0 ≤ v3 ∧ v3 < (v0.size : Int), fun _ => (decide ((bytAt v0 v3) ≥ (97 : Int))) = true, fun _ => 0 ≤ v3 ∧ v3 < (v0.size : Int), fun _ => (decide ((bytAt v0 v3) ≤ (122 : Int))) = false, fun _ => (v3 == (0 : Int)) = true] (fun k => by kernel_rfl) ⟨Ev.c h0, Ev.c h1, Ev.c h2, Ev.c h1, Ev.c h3, Ev.c h4, trivial⟩
theorem R20_0_2 (v0 : ByteArray) (v3 : Int) (h0 : (decide (v3 < (v0.size : Int))) = true) (h1 : 0 ≤ v3 ∧ v3 < (v0.size : Int)) (h2 : (decide ((bytAt v0 v3) ≥ (97 : Int))) = true) (h3 : (decide ((bytAt v0 v3) ≤ (122 : Int))) = false) (h4 : (v3 == (0 : Int)) = false) (h5 : (decide ((bytAt v0 v3) < (48 : Int))) = true) : Round E 20 (lpAt Try.f20 0) (stL 42 [(0, .one (tS v0)), (3, .one (tI v3))]) .ret (stL 42 [(2, .one (tB false))]) :=
  Round.path [.b true, .b true, .b false, .b false, .b true] [fun _ => (decide (v3 < (v0.size : Int))) = true, fun _ => 0 ≤ v3 ∧ v3 < (v0.size : Int), fun _ => (decide ((bytAt v0 v3) ≥ (97 : Int))) = true, fun _ => 0 ≤ v3 ∧ v3 < (v0.size : Int), fun _ => (decide ((bytAt v0 v3) ≤ (122 : Int))) = false, fun _ => (v3 == (0 : Int)) = false, fun _ => 0 ≤ v3 ∧ v3 < (v0.size : Int), fun _ => (decide ((bytAt v0 v3) < (48 : Int))) = true] (fun k => by kernel_rfl) ⟨Ev.c h0, Ev.c h1, Ev.c h2, Ev.c h1, Ev.c h3, Ev.c h4, Ev.c h1, Ev.c h5, trivial⟩
theorem R20_0_3 (v0 : ByteArray) (v3 : Int) (h0 : (decide (v3 < (v0.size : Int))) = true) (h1 : 0 ≤ v3 ∧ v3 < (v0.size : Int)) (h2 : (decide ((bytAt v0 v3) ≥ (97 : Int))) = true) (h3 : (decide ((bytAt v0 v3) ≤ (122 : Int))) = false) (h4 : (v3 == (0 : Int)) = false) (h5 : (decide ((bytAt v0 v3) < (48 : Int))) = false) (h6 : (decide ((bytAt v0 v3) > (57 : Int))) = true) : Round E 20 (lpAt Try.f20 0) (stL 42 [(0, .one (tS v0)), (3, .one (tI v3))]) .ret (stL 42 [(2, .one (tB false))]) :=
  Round.path [.b true, .b true, .b false, .b false, .b false, .b true] [fun _ => (decide (v3 < (v0.size : Int))) = true, fun _ => 0 ≤ v3 ∧ v3 < (v0.size : Int), fun _ => (decide ((bytAt v0 v3) ≥ (97 : Int))) = true, fun _ => 0 ≤ v3 ∧ v3 < (v0.size : Int), fun _ => (decide ((bytAt v0 v3) ≤ (122 : Int))) = false, fun _ => (v3 == (0 : Int)) = false, fun _ => 0 ≤ v3 ∧ v3 < (v0.size : Int), fun _ => (decide ((bytAt v0 v3) < (48 : Int))) = false, fun _ => 0 ≤ v3 ∧ v3 < (v0.size : Int), fun _ => (decide ((bytAt v0 v3) > (57 : Int))) = true] (fun k => by kernel_rfl) ⟨Ev.c h0, Ev.c h1, Ev.c h2, Ev.c h1, Ev.c h3, Ev.c h4, Ev.c h1, Ev.c h5, Ev.c h1, Ev.c h6, trivial⟩
theorem R20_0_4 (v0 : ByteArray) (v3 : Int) (h0 : (decide (v3 < (v0.size : Int))) = true) (h1 : 0 ≤ v3 ∧ v3 < (v0.size : Int)) (h2 : (decide ((bytAt v0 v3) ≥ (97 : Int))) = true) (h3 : (decide ((bytAt v0 v3) ≤ (122 : Int))) = false) (h4 : (v3 == (0 : Int)) = false) (h5 : (decide ((bytAt v0 v3) < (48 : Int))) = false) (h6 : (decide ((bytAt v0 v3) > (57 : Int))) = false) : Round E 20 (lpAt Try.f20 0) (stL 42 [(0, .one (tS v0)), (3, .one (tI v3))]) .normal (stL 42 [(0, .one (tS v0)), (3, .one (tI (IntKind.wrap .i64 (v3 + (1 : Int)))))]) :=
  Round.path [.b true, .b true, .b false, .b false, .b false, .b false] [fun _ => (decide (v3 < (v0.size : Int))) = true, fun _ => 0 ≤ v3 ∧ v3 < (v0.size : Int), fun _ => (decide ((bytAt v0 v3) ≥ (97 : Int))) = true, fun _ => 0 ≤ v3 ∧ v3 < (v0.size : Int), fun _ => (decide ((bytAt v0 v3) ≤ (122 : Int))) = false, fun _ => (v3 == (0 : Int)) = false, fun _ => 0 ≤ v3 ∧ v3 < (v0.size : Int), fun _ => (decide ((bytAt v0 v3) < (48 : Int))) = false, fun _ => 0 ≤ v3 ∧ v3 < (v0.size : Int), fun _ => (decide ((bytAt v0 v3) > (57 : Int))) = false] (fun k => by kernel_rfl) ⟨Ev.c h0, Ev.c h1, Ev.c h2, Ev.c h1, Ev.c h3, Ev.c h4, Ev.c h1, Ev.c h5, Ev.c h1, Ev.c h6, trivial⟩
theorem R20_0_5 (v0 : ByteArray) (v3 : Int) (h0 : (decide (v3 < (v0.size : Int))) = true) (h1 : 0 ≤ v3 ∧ v3 < (v0.size : Int)) (h2 : (decide ((bytAt v0 v3) ≥ (97 : Int))) = false) (h3 : (v3 == (0 : Int)) = true) : Round E 20 (lpAt Try.f20 0) (stL 42 [(0, .one (tS v0)), (3, .one (tI v3))]) .ret (stL 42 [(2, .one (tB false))]) :=
  Round.path [.b true, .b false, .b true] [fun _ => (decide (v3 < (v0.size : Int))) = true, fun _ => 0 ≤ v3 ∧ v3 < (v0.size : Int), fun _ => (decide ((bytAt v0 v3) ≥ (97 : Int))) = false, fun _ => (v3 == (0 : Int)) = true] (fun k => by kernel_rfl) ⟨Ev.c h0, Ev.c h1, Ev.c h2, Ev.c h3, trivial⟩
theorem R20_0_6 (v0 : ByteArray) (v3 : Int) (h0 : (decide (v3 < (v0.size : Int))) = true) (h1 : 0 ≤ v3 ∧ v3 < (v0.size : Int)) (h2 : (decide ((bytAt v0 v3) ≥ (97 : Int))) = false) (h3 : (v3 == (0 : Int)) = false) (h4 : (decide ((bytAt v0 v3) < (48 : Int))) = true) : Round E 20 (lpAt Try.f20 0) (stL 42 [(0, .one (tS v0)), (3, .one (tI v3))]) .ret (stL 42 [(2, .one (tB false))]) :=
  Round.path [.b true, .b false, .b false, .b true] [fun _ => (decide (v3 < (v0.size : Int))) = true, fun _ => 0 ≤ v3 ∧ v3 < (v0.size : Int), fun _ => (decide ((bytAt v0 v3) ≥ (97 : Int))) = false, fun _ => (v3 == (0 : Int)) = false, fun _ => 0 ≤ v3 ∧ v3 < (v0.size : Int), fun _ => (decide ((bytAt v0 v3) < (48 : Int))) = true] (fun k => by kernel_rfl) ⟨Ev.c h0, Ev.c h1, Ev.c h2, Ev.c h3, Ev.c h1, Ev.c h4, trivial⟩
theorem R20_0_7 (v0 : ByteArray) (v3 : Int) (h0 : (decide (v3 < (v0.size : Int))) = true) (h1 : 0 ≤ v3 ∧ v3 < (v0.size : Int)) (h2 : (decide ((bytAt v0 v3) ≥ (97 : Int))) = false) (h3 : (v3 == (0 : Int)) = false) (h4 : (decide ((bytAt v0 v3) < (48 : Int))) = false) (h5 : (decide ((bytAt v0 v3) > (57 : Int))) = true) : Round E 20 (lpAt Try.f20 0) (stL 42 [(0, .one (tS v0)), (3, .one (tI v3))]) .ret (stL 42 [(2, .one (tB false))]) :=
  Round.path [.b true, .b false, .b false, .b false, .b true] [fun _ => (decide (v3 < (v0.size : Int))) = true, fun _ => 0 ≤ v3 ∧ v3 < (v0.size : Int), fun _ => (decide ((bytAt v0 v3) ≥ (97 : Int))) = false, fun _ => (v3 == (0 : Int)) = false, fun _ => 0 ≤ v3 ∧ v3 < (v0.size : Int), fun _ => (decide ((bytAt v0 v3) < (48 : Int))) = false, fun _ => 0 ≤ v3 ∧ v3 < (v0.size : Int), fun _ => (decide ((bytAt v0 v3) > (57 : Int))) = true] (fun k => by kernel_rfl) ⟨Ev.c h0, Ev.c h1, Ev.c h2, Ev.c h3, Ev.c h1, Ev.c h4, Ev.c h1, Ev.c h5, trivial⟩
theorem R20_0_8 (v0 : ByteArray) (v3 : Int) (h0 : (decide (v3 < (v0.size : Int))) = true) (h1 : 0 ≤ v3 ∧ v3 < (v0.size : Int)) (h2 : (decide ((bytAt v0 v3) ≥ (97 : Int))) = false) (h3 : (v3 == (0 : Int)) = false) (h4 : (decide ((bytAt v0 v3) < (48 : Int))) = false) (h5 : (decide ((bytAt v0 v3) > (57 : Int))) = false) : Round E 20 (lpAt Try.f20 0) (stL 42 [(0, .one (tS v0)), (3, .one (tI v3))]) .normal (stL 42 [(0, .one (tS v0)), (3, .one (tI (IntKind.wrap .i64 (v3 + (1 : Int)))))]) :=
  Round.path [.b true, .b false, .b false, .b false, .b false] [fun _ => (decide (v3 < (v0.size : Int))) = true, fun _ => 0 ≤ v3 ∧ v3 < (v0.size : Int), fun _ => (decide ((bytAt v0 v3) ≥ (97 : Int))) = false, fun _ => (v3 == (0 : Int)) = false, fun _ => 0 ≤ v3 ∧ v3 < (v0.size : Int), fun _ => (decide ((bytAt v0 v3) < (48 : Int))) = false, fun _ => 0 ≤ v3 ∧ v3 < (v0.size : Int), fun _ => (decide ((bytAt v0 v3) > (57 : Int))) = false] (fun k => by kernel_rfl) ⟨Ev.c h0, Ev.c h1, Ev.c h2, Ev.c h3, Ev.c h1, Ev.c h4, Ev.c h1, Ev.c h5, trivial⟩
theorem R20_0_9 (v0 : ByteArray) (v3 : Int) (h0 : (decide (v3 < (v0.size : Int))) = false) : Round E 20 (lpAt Try.f20 0) (stL 42 [(0, .one (tS v0)), (3, .one (tI v3))]) (.exit 0) (stL 42 [(0, .one (tS v0))]) :=
  Round.path [.b false] [fun _ => (decide (v3 < (v0.size : Int))) = false] (fun k => by kernel_rfl) ⟨Ev.c h0, trivial⟩
theorem L20_0 (n : Nat) : ∀ (v0 : ByteArray) (v3 : Int), Ans (loop20_0 n v0 v3) (Q20_0 v0 v3) := by
  induction n with
  | zero => intros; exact Ans.none
  | succ n ih =>
    intro v0 v3
    unfold loop20_0
    refine Ans.ite (fun h0 => ?_) (fun h0 => ?_)
    · refine Ans.pre (fun h1 => ?_)
      refine Ans.ite (fun h2 => ?_) (fun h2 => ?_)
      · refine Ans.ite (fun h3 => ?_) (fun h3 => ?_)
        · exact (ih v0 (IntKind.wrap .i64 (v3 + (1 : Int)))).mono fun y hy => by cases y <;> exact Loops.next (R20_0_0 v0 v3 h0 h1 h2 h3) hy
        · refine Ans.ite (fun h4 => ?_) (fun h4 => ?_)
          · exact Ans.some (Loops.stop (R20_0_1 v0 v3 h0 h1 h2 h3 h4) (by intro h; cases h))
          · refine Ans.ite (fun h5 => ?_) (fun h5 => ?_)
            · exact Ans.some (Loops.stop (R20_0_2 v0 v3 h0 h1 h2 h3 h4 h5) (by intro h; cases h))
            · refine Ans.ite (fun h6 => ?_) (fun h6 => ?_)
              · exact Ans.some (Loops.stop (R20_0_3 v0 v3 h0 h1 h2 h3 h4 h5 h6) (by intro h; cases h))
              · exact (ih v0 (IntKind.wrap .i64 (v3 + (1 : Int)))).mono fun y hy => by cases y <;> exact Loops.next (R20_0_4 v0 v3 h0 h1 h2 h3 h4 h5 h6) hy
      · refine Ans.ite (fun h3 => ?_) (fun h3 => ?_)
        · exact Ans.some (Loops.stop (R20_0_5 v0 v3 h0 h1 h2 h3) (by intro h; cases h))
        · refine Ans.ite (fun h4 => ?_) (fun h4 => ?_)
          · exact Ans.some (Loops.stop (R20_0_6 v0 v3 h0 h1 h2 h3 h4) (by intro h; cases h))
          · refine Ans.ite (fun h5 => ?_) (fun h5 => ?_)
            · exact Ans.some (Loops.stop (R20_0_7 v0 v3 h0 h1 h2 h3 h4 h5) (by intro h; cases h))
            · exact (ih v0 (IntKind.wrap .i64 (v3 + (1 : Int)))).mono fun y hy => by cases y <;> exact Loops.next (R20_0_8 v0 v3 h0 h1 h2 h3 h4 h5) hy
    · exact Ans.some (Loops.stop (R20_0_9 v0 v3 h0) (by intro h; cases h))
theorem P20_0 (x0 : ByteArray) (w0_2 : Bool) (h0 : Loops E 20 (lpAt Try.f20 0) (stL 42 [(0, .one (tS x0)), (3, .one (tI (0 : Int)))]) .ret (stL 42 [(2, .one (tB w0_2))])) : Does E 20 [.one (tS x0)] [(false, [tB w0_2])] :=
  Does.path (fn := Try.f20) [.lp .ret (stL 42 [(2, .one (tB w0_2))])] [fun k => LoopK E 20 (lpAt Try.f20 0) (stL 42 [(0, .one (tS x0)), (3, .one (tI (0 : Int)))]) .ret (stL 42 [(2, .one (tB w0_2))]) k k] rfl rfl (fun k => by kernel_rfl) ⟨Loops.ev h0, trivial⟩
theorem P20_1 (x0 : ByteArray) (h0 : Loops E 20 (lpAt Try.f20 0) (stL 42 [(0, .one (tS x0)), (3, .one (tI (0 : Int)))]) (.exit 0) (stL 42 [(0, .one (tS x0))])) : Does E 20 [.one (tS x0)] [(false, [tB (inRange (x0.size : Int) (1 : Int) (8 : Int))])] :=
  Does.path (fn := Try.f20) [.lp (.exit 0) (stL 42 [(0, .one (tS x0))]), .ret [(false, [tB (inRange (x0.size : Int) (1 : Int) (8 : Int))])]] [fun k => LoopK E 20 (lpAt Try.f20 0) (stL 42 [(0, .one (tS x0)), (3, .one (tI (0 : Int)))]) (.exit 0) (stL 42 [(0, .one (tS x0))]) k k, fun k => E.C k 72 [.one (tI (x0.size : Int)), .one (tI (1 : Int)), .one (tI (8 : Int))] = some [(false, [tB (inRange (x0.size : Int) (1 : Int) (8 : Int))])]] rfl rfl (fun k => by kernel_rfl) ⟨Loops.ev h0, T72 (x0.size : Int) (1 : Int) (8 : Int), trivial⟩
def sem20 (n : Nat) (x0 : ByteArray) : Option (Bool) :=
    (loop20_0 n x0 (0 : Int)).bind fun y => match y with
      | .ret w0_2 => (some (w0_2))
      | .x0 => (some (inRange (x0.size : Int) (1 : Int) (8 : Int)))
theorem D20 (n : Nat) (x0 : ByteArray) : Ans (sem20 n x0) (fun r => Does E 20 [.one (tS x0)] [(false, [tB r])]) := by
  unfold sem20
  refine Ans.bind (fun y hy => ?_)
  replace hy := L20_0 n x0 (0 : Int) y hy
  cases y with
  | ret w0_2 =>
    have h0 := hy
    exact Ans.some (P20_0 x0 w0_2 h0)
  | x0 =>
    have h0 := hy
    exact Ans.some (P20_1 x0 h0)
-- function 19: loop.example/g00188/spec.NameOk
inductive X19_0 where
  | ret (v2 : Bool)
  | x0 
def loop19_0 : Nat → ByteArray → Int → Option X19_0
  | 0, _, _ => none
  | n + 1, v0, v3 => cond (decide (v3 < (v0.size : Int)))
    (if 0 ≤ v3 ∧ v3 < (v0.size : Int) then cond (decide ((bytAt v0 v3) < (97 : Int)))
      (cond (decide ((bytAt v0 v3) < (48 : Int)))
        (some (.ret false))
        (cond (decide ((bytAt v0 v3) > (57 : Int)))
          (some (.ret false))
          (loop19_0 n v0 (IntKind.wrap .i64 (v3 + (1 : Int))))))
      (cond (decide ((bytAt v0 v3) > (122 : Int)))
        (cond (decide ((bytAt v0 v3) < (48 : Int)))
          (some (.ret false))
          (cond (decide ((bytAt v0 v3) > (57 : Int)))
            (some (.ret false))
            (loop19_0 n v0 (IntKind.wrap .i64 (v3 + (1 : Int))))))
        (loop19_0 n v0 (IntKind.wrap .i64 (v3 + (1 : Int))))) else none)
    (some (.x0))
def Q19_0 (v0 : ByteArray) (v3 : Int) : X19_0 → Prop
  | .ret zv2 => Loops E 19 (lpAt Try.f19 0) (stL 46 [(0, .one (tS v0)), (3, .one (tI v3))]) .ret (stL 46 [(2, .one (tB zv2))])
  | .x0 => Loops E 19 (lpAt Try.f19 0) (stL 46 [(0, .one (tS v0)), (3, .one (tI v3))]) (.exit 0) (stL 46 [])
theorem R19_0_0 (v0 : ByteArray) (v3 : Int) (h0 : (decide (v3 < (v0.size : Int))) = true) (h1 : 0 ≤ v3 ∧ v3 < (v0.size : Int)) (h2 : (decide ((bytAt v0 v3) < (97 : Int))) = true) (h3 : (decide ((bytAt v0 v3) < (48 : Int))) = true) : Round E 19 (lpAt Try.f19 0) (stL 46 [(0, .one (tS v0)), (3, .one (tI v3))]) .ret (stL 46 [(2, .one (tB false))]) :=
  Round.path [.b true, .b true, .b true] [fun _ => (decide (v3 < (v0.size : Int))) = true, fun _ => 0 ≤ v3 ∧ v3 < (v0.size : Int), fun _ => (decide ((bytAt v0 v3) < (97 : Int))) = true, fun _ => 0 ≤ v3 ∧ v3 < (v0.size : Int), fun _ => (decide ((bytAt v0 v3) < (48 : Int))) = true] (fun k => by kernel_rfl) ⟨Ev.c h0, Ev.c h1, Ev.c h2, Ev.c h1, Ev.c h3, trivial⟩
theorem R19_0_1 (v0 : ByteArray) (v3 : Int) (h0 : (decide (v3 < (v0.size : Int))) = true) (h1 : 0 ≤ v3 ∧ v3 < (v0.size : Int)) (h2 : (decide ((bytAt v0 v3) < (97 : Int))) = true) (h3 : (decide ((bytAt v0 v3) < (48 : Int))) = false) (h4 : (decide ((bytAt v0 v3) > (57 : Int))) = true) : Round E 19 (lpAt Try.f19 0) (stL 46 [(0, .one (tS v0)), (3, .one (tI v3))]) .ret (stL 46 [(2, .one (tB false))]) :=
  Round.path [.b true, .b true, .b false, .b true] [fun _ => (decide (v3 < (v0.size : Int))) = true, fun _ => 0 ≤ v3 ∧ v3 < (v0.size : Int), fun _ => (decide ((bytAt v0 v3) < (97 : Int))) = true, fun _ => 0 ≤ v3 ∧ v3 < (v0.size : Int), fun _ => (decide ((bytAt v0 v3) < (48 : Int))) = false, fun _ => 0 ≤ v3 ∧ v3 < (v0.size : Int), fun _ => (decide ((bytAt v0 v3) > (57 : Int))) = true] (fun k => by kernel_rfl) ⟨Ev.c h0, Ev.c h1, Ev.c h2, Ev.c h1, Ev.c h3, Ev.c h1, Ev.c h4, trivial⟩
theorem R19_0_2 (v0 : ByteArray) (v3 : Int) (h0 : (decide (v3 < (v0.size : Int))) = true) (h1 : 0 ≤ v3 ∧ v3 < (v0.size : Int)) (h2 : (decide ((bytAt v0 v3) < (97 : Int))) = true) (h3 : (decide ((bytAt v0 v3) < (48 : Int))) = false) (h4 : (decide ((bytAt v0 v3) > (57 : Int))) = false) : Round E 19 (lpAt Try.f19 0) (stL 46 [(0, .one (tS v0)), (3, .one (tI v3))]) .normal (stL 46 [(0, .one (tS v0)), (3, .one (tI (IntKind.wrap .i64 (v3 + (1 : Int)))))]) :=
  Round.path [.b true, .b true, .b false, .b false] [fun _ => (decide (v3 < (v0.size : Int))) = true, fun _ => 0 ≤ v3 ∧ v3 < (v0.size : Int), fun _ => (decide ((bytAt v0 v3) < (97 : Int))) = true, fun _ => 0 ≤ v3 ∧ v3 < (v0.size : Int), fun _ => (decide ((bytAt v0 v3) < (48 : Int))) = false, fun _ => 0 ≤ v3 ∧ v3 < (v0.size : Int), fun _ => (decide ((bytAt v0 v3) > (57 : Int))) = false] (fun k => by kernel_rfl) ⟨Ev.c h0, Ev.c h1, Ev.c h2, Ev.c h1, Ev.c h3, Ev.c h1, Ev.c h4, trivial⟩
theorem R19_0_3 (v0 : ByteArray) (v3 : Int) (h0 : (decide (v3 < (v0.size : Int))) = true) (h1 : 0 ≤ v3 ∧ v3 < (v0.size : Int)) (h2 : (decide ((bytAt v0 v3) < (97 : Int))) = false) (h3 : (decide ((bytAt v0 v3) > (122 : Int))) = true) (h4 : (decide ((bytAt v0 v3) < (48 : Int))) = true) : Round E 19 (lpAt Try.f19 0) (stL 46 [(0, .one (tS v0)), (3, .one (tI v3))]) .ret (stL 46 [(2, .one (tB false))]) :=
  Round.path [.b true, .b false, .b true, .b true] [fun _ => (decide (v3 < (v0.size : Int))) = true, fun _ => 0 ≤ v3 ∧ v3 < (v0.size : Int), fun _ => (decide ((bytAt v0 v3) < (97 : Int))) = false, fun _ => 0 ≤ v3 ∧ v3 < (v0.size : Int), fun _ => (decide ((bytAt v0 v3) > (122 : Int))) = true, fun _ => 0 ≤ v3 ∧ v3 < (v0.size : Int), fun _ => (decide ((bytAt v0 v3) < (48 : Int))) = true] (fun k => by kernel_rfl) ⟨Ev.c h0, Ev.c h1, Ev.c h2, Ev.c h1, Ev.c h3, Ev.c h1, Ev.c h4, trivial⟩
theorem R19_0_4 (v0 : ByteArray) (v3 : Int) (h0 : (decide (v3 < (v0.size : Int))) = true) (h1 : 0 ≤ v3 ∧ v3 < (v0.size : Int)) (h2 : (decide ((bytAt v0 v3) < (97 : Int))) = false) (h3 : (decide ((bytAt v0 v3) > (122 : Int))) = true) (h4 : (decide ((bytAt v0 v3) < (48 : Int))) = false) (h5 : (decide ((bytAt v0 v3) > (57 : Int))) = true) : Round E 19 (lpAt Try.f19 0) (stL 46 [(0, .one (tS v0)), (3, .one (tI v3))]) .ret (stL 46 [(2, .one (tB false))]) :=
  Round.path [.b true, .b false, .b true, .b false, .b true] [fun _ => (decide (v3 < (v0.size : Int))) = true, fun _ => 0 ≤ v3 ∧ v3 < (v0.size : Int), fun _ => (decide ((bytAt v0 v3) < (97 : Int))) = false, fun _ => 0 ≤ v3 ∧ v3 < (v0.size : Int), fun _ => (decide ((bytAt v0 v3) > (122 : Int))) = true, fun _ => 0 ≤ v3 ∧ v3 < (v0.size : Int), fun _ => (decide ((bytAt v0 v3) < (48 : Int))) = false, fun _ => 0 ≤ v3 ∧ v3 < (v0.size : Int), fun _ => (decide ((bytAt v0 v3) > (57 : Int))) = true] (fun k => by kernel_rfl) ⟨Ev.c h0, Ev.c h1, Ev.c h2, Ev.c h1, Ev.c h3, Ev.c h1, Ev.c h4, Ev.c h1, Ev.c h5, trivial⟩
theorem R19_0_5 (v0 : ByteArray) (v3 : Int) (h0 : (decide (v3 < (v0.size : Int))) = true) (h1 : 0 ≤ v3 ∧ v3 < (v0.size : Int)) (h2 : (decide ((bytAt v0 v3) < (97 : Int))) = false) (h3 : (decide ((bytAt v0 v3) > (122 : Int))) = true) (h4 : (decide ((bytAt v0 v3) < (48 : Int))) = false) (h5 : (decide ((bytAt v0 v3) > (57 : Int))) = false) : Round E 19 (lpAt Try.f19 0) (stL 46 [(0, .one (tS v0)), (3, .one (tI v3))]) .normal (stL 46 [(0, .one (tS v0)), (3, .one (tI (IntKind.wrap .i64 (v3 + (1 : Int)))))]) :=
  Round.path [.b true, .b false, .b true, .b false, .b false] [fun _ => (decide (v3 < (v0.size : Int))) = true, fun _ => 0 ≤ v3 ∧ v3 < (v0.size : Int), fun _ => (decide ((bytAt v0 v3) < (97 : Int))) = false, fun _ => 0 ≤ v3 ∧ v3 < (v0.size : Int), fun _ => (decide ((bytAt v0 v3) > (122 : Int))) = true, fun _ => 0 ≤ v3 ∧ v3 < (v0.size : Int), fun _ => (decide ((bytAt v0 v3) < (48 : Int))) = false, fun _ => 0 ≤ v3 ∧ v3 < (v0.size : Int), fun _ => (decide ((bytAt v0 v3) > (57 : Int))) = false] (fun k => by kernel_rfl) ⟨Ev.c h0, Ev.c h1, Ev.c h2, Ev.c h1, Ev.c h3, Ev.c h1, Ev.c h4, Ev.c h1, Ev.c h5, trivial⟩
theorem R19_0_6 (v0 : ByteArray) (v3 : Int) (h0 : (decide (v3 < (v0.size : Int))) = true) (h1 : 0 ≤ v3 ∧ v3 < (v0.size : Int)) (h2 : (decide ((bytAt v0 v3) < (97 : Int))) = false) (h3 : (decide ((bytAt v0 v3) > (122 : Int))) = false) : Round E 19 (lpAt Try.f19 0) (stL 46 [(0, .one (tS v0)), (3, .one (tI v3))]) .normal (stL 46 [(0, .one (tS v0)), (3, .one (tI (IntKind.wrap .i64 (v3 + (1 : Int)))))]) :=
  Round.path [.b true, .b false, .b false] [fun _ => (decide (v3 < (v0.size : Int))) = true, fun _ => 0 ≤ v3 ∧ v3 < (v0.size : Int), fun _ => (decide ((bytAt v0 v3) < (97 : Int))) = false, fun _ => 0 ≤ v3 ∧ v3 < (v0.size : Int), fun _ => (decide ((bytAt v0 v3) > (122 : Int))) = false] (fun k => by kernel_rfl) ⟨Ev.c h0, Ev.c h1, Ev.c h2, Ev.c h1, Ev.c h3, trivial⟩
theorem R19_0_7 (v0 : ByteArray) (v3 : Int) (h0 : (decide (v3 < (v0.size : Int))) = false) : Round E 19 (lpAt Try.f19 0) (stL 46 [(0, .one (tS v0)), (3, .one (tI v3))]) (.exit 0) (stL 46 []) :=
  Round.path [.b false] [fun _ => (decide (v3 < (v0.size : Int))) = false] (fun k => by kernel_rfl) ⟨Ev.c h0, trivial⟩
theorem L19_0 (n : Nat) : ∀ (v0 : ByteArray) (v3 : Int), Ans (loop19_0 n v0 v3) (Q19_0 v0 v3) := by
  induction n with
  | zero => intros; exact Ans.none
  | succ n ih =>
    intro v0 v3
    unfold loop19_0
    refine Ans.ite (fun h0 => ?_) (fun h0 => ?_)
    · refine Ans.pre (fun h1 => ?_)
      refine Ans.ite (fun h2 => ?_) (fun h2 => ?_)
      · refine Ans.ite (fun h3 => ?_) (fun h3 => ?_)
        · exact Ans.some (Loops.stop (R19_0_0 v0 v3 h0 h1 h2 h3) (by intro h; cases h))
        · refine Ans.ite (fun h4 => ?_) (fun h4 => ?_)
          · exact Ans.some (Loops.stop (R19_0_1 v0 v3 h0 h1 h2 h3 h4) (by intro h; cases h))
          · exact (ih v0 (IntKind.wrap .i64 (v3 + (1 : Int)))).mono fun y hy => by cases y <;> exact Loops.next (R19_0_2 v0 v3 h0 h1 h2 h3 h4) hy
      · refine Ans.ite (fun h3 => ?_) (fun h3 => ?_)
        · refine Ans.ite (fun h4 => ?_) (fun h4 => ?_)
          · exact Ans.some (Loops.stop (R19_0_3 v0 v3 h0 h1 h2 h3 h4) (by intro h; cases h))
          · refine Ans.ite (fun h5 => ?_) (fun h5 => ?_)
            · exact Ans.some (Loops.stop (R19_0_4 v0 v3 h0 h1 h2 h3 h4 h5) (by intro h; cases h))
            · exact (ih v0 (IntKind.wrap .i64 (v3 + (1 : Int)))).mono fun y hy => by cases y <;> exact Loops.next (R19_0_5 v0 v3 h0 h1 h2 h3 h4 h5) hy
        · exact (ih v0 (IntKind.wrap .i64 (v3 + (1 : Int)))).mono fun y hy => by cases y <;> exact Loops.next (R19_0_6 v0 v3 h0 h1 h2 h3) hy
    · exact Ans.some (Loops.stop (R19_0_7 v0 v3 h0) (by intro h; cases h))
theorem P19_0 (x0 : ByteArray) (h0 : (inRange (x0.size : Int) (1 : Int) (8 : Int)) = true) (h1 : 0 ≤ (0 : Int) ∧ (0 : Int) < (x0.size : Int)) (h2 : (decide ((bytAt x0 (0 : Int)) < (97 : Int))) = true) : Does E 19 [.one (tS x0)] [(false, [tB false])] :=
  Does.path (fn := Try.f19) [.ret [(false, [tB true])], .b true] [fun k => E.C k 71 [.one (tI (x0.size : Int)), .one (tI (1 : Int)), .one (tI (8 : Int))] = some [(false, [tB true])], fun _ => 0 ≤ (0 : Int) ∧ (0 : Int) < (x0.size : Int), fun _ => (decide ((bytAt x0 (0 : Int)) < (97 : Int))) = true] rfl rfl (fun k => by kernel_rfl) ⟨Does.to (T71 (x0.size : Int) (1 : Int) (8 : Int)) (by rw [h0]), Ev.c h1, Ev.c h2, trivial⟩
theorem P19_1 (x0 : ByteArray) (h0 : (inRange (x0.size : Int) (1 : Int) (8 : Int)) = true) (h1 : 0 ≤ (0 : Int) ∧ (0 : Int) < (x0.size : Int)) (h2 : (decide ((bytAt x0 (0 : Int)) < (97 : Int))) = false) (h3 : (decide ((bytAt x0 (0 : Int)) > (122 : Int))) = true) : Does E 19 [.one (tS x0)] [(false, [tB false])] :=
  Does.path (fn := Try.f19) [.ret [(false, [tB true])], .b false, .b true] [fun k => E.C k 71 [.one (tI (x0.size : Int)), .one (tI (1 : Int)), .one (tI (8 : Int))] = some [(false, [tB true])], fun _ => 0 ≤ (0 : Int) ∧ (0 : Int) < (x0.size : Int), fun _ => (decide ((bytAt x0 (0 : Int)) < (97 : Int))) = false, fun _ => 0 ≤ (0 : Int) ∧ (0 : Int) < (x0.size : Int), fun _ => (decide ((bytAt x0 (0 : Int)) > (122 : Int))) = true] rfl rfl (fun k => by kernel_rfl) ⟨Does.to (T71 (x0.size : Int) (1 : Int) (8 : Int)) (by rw [h0]), Ev.c h1, Ev.c h2, Ev.c h1, Ev.c h3, trivial⟩
theorem P19_2 (x0 : ByteArray) (w0_2 : Bool) (h0 : (inRange (x0.size : Int) (1 : Int) (8 : Int)) = true) (h1 : 0 ≤ (0 : Int) ∧ (0 : Int) < (x0.size : Int)) (h2 : (decide ((bytAt x0 (0 : Int)) < (97 : Int))) = false) (h3 : (decide ((bytAt x0 (0 : Int)) > (122 : Int))) = false) (h4 : Loops E 19 (lpAt Try.f19 0) (stL 46 [(0, .one (tS x0)), (3, .one (tI (0 : Int)))]) .ret (stL 46 [(2, .one (tB w0_2))])) : Does E 19 [.one (tS x0)] [(false, [tB w0_2])] :=
  Does.path (fn := Try.f19) [.ret [(false, [tB true])], .b false, .b false, .lp .ret (stL 46 [(2, .one (tB w0_2))])] [fun k => E.C k 71 [.one (tI (x0.size : Int)), .one (tI (1 : Int)), .one (tI (8 : Int))] = some [(false, [tB true])], fun _ => 0 ≤ (0 : Int) ∧ (0 : Int) < (x0.size : Int), fun _ => (decide ((bytAt x0 (0 : Int)) < (97 : Int))) = false, fun _ => 0 ≤ (0 : Int) ∧ (0 : Int) < (x0.size : Int), fun _ => (decide ((bytAt x0 (0 : Int)) > (122 : Int))) = false, fun k => LoopK E 19 (lpAt Try.f19 0) (stL 46 [(0, .one (tS x0)), (3, .one (tI (0 : Int)))]) .ret (stL 46 [(2, .one (tB w0_2))]) k k] rfl rfl (fun k => by kernel_rfl) ⟨Does.to (T71 (x0.size : Int) (1 : Int) (8 : Int)) (by rw [h0]), Ev.c h1, Ev.c h2, Ev.c h1, Ev.c h3, Loops.ev h4, trivial⟩
theorem P19_3 (x0 : ByteArray) (h0 : (inRange (x0.size : Int) (1 : Int) (8 : Int)) = true) (h1 : 0 ≤ (0 : Int) ∧ (0 : Int) < (x0.size : Int)) (h2 : (decide ((bytAt x0 (0 : Int)) < (97 : Int))) = false) (h3 : (decide ((bytAt x0 (0 : Int)) > (122 : Int))) = false) (h4 : Loops E 19 (lpAt Try.f19 0) (stL 46 [(0, .one (tS x0)), (3, .one (tI (0 : Int)))]) (.exit 0) (stL 46 [])) : Does E 19 [.one (tS x0)] [(false, [tB true])] :=
  Does.path (fn := Try.f19) [.ret [(false, [tB true])], .b false, .b false, .lp (.exit 0) (stL 46 [])] [fun k => E.C k 71 [.one (tI (x0.size : Int)), .one (tI (1 : Int)), .one (tI (8 : Int))] = some [(false, [tB true])], fun _ => 0 ≤ (0 : Int) ∧ (0 : Int) < (x0.size : Int), fun _ => (decide ((bytAt x0 (0 : Int)) < (97 : Int))) = false, fun _ => 0 ≤ (0 : Int) ∧ (0 : Int) < (x0.size : Int), fun _ => (decide ((bytAt x0 (0 : Int)) > (122 : Int))) = false, fun k => LoopK E 19 (lpAt Try.f19 0) (stL 46 [(0, .one (tS x0)), (3, .one (tI (0 : Int)))]) (.exit 0) (stL 46 []) k k] rfl rfl (fun k => by kernel_rfl) ⟨Does.to (T71 (x0.size : Int) (1 : Int) (8 : Int)) (by rw [h0]), Ev.c h1, Ev.c h2, Ev.c h1, Ev.c h3, Loops.ev h4, trivial⟩
theorem P19_4 (x0 : ByteArray) (h0 : (inRange (x0.size : Int) (1 : Int) (8 : Int)) = false) : Does E 19 [.one (tS x0)] [(false, [tB false])] :=
  Does.path (fn := Try.f19) [.ret [(false, [tB false])]] [fun k => E.C k 71 [.one (tI (x0.size : Int)), .one (tI (1 : Int)), .one (tI (8 : Int))] = some [(false, [tB false])]] rfl rfl (fun k => by kernel_rfl) ⟨Does.to (T71 (x0.size : Int) (1 : Int) (8 : Int)) (by rw [h0]), trivial⟩
def sem19 (n : Nat) (x0 : ByteArray) : Option (Bool) :=
    cond (inRange (x0.size : Int) (1 : Int) (8 : Int))
      (if 0 ≤ (0 : Int) ∧ (0 : Int) < (x0.size : Int) then cond (decide ((bytAt x0 (0 : Int)) < (97 : Int)))
        (some (false))
        (cond (decide ((bytAt x0 (0 : Int)) > (122 : Int)))
          (some (false))
          ((loop19_0 n x0 (0 : Int)).bind fun y => match y with
            | .ret w0_2 => (some (w0_2))
            | .x0 => (some (true)))) else none)
      (some (false))
theorem D19 (n : Nat) (x0 : ByteArray) : Ans (sem19 n x0) (fun r => Does E 19 [.one (tS x0)] [(false, [tB r])]) := by
  unfold sem19
  refine Ans.ite (fun h0 => ?_) (fun h0 => ?_)
  · refine Ans.pre (fun h1 => ?_)
    refine Ans.ite (fun h2 => ?_) (fun h2 => ?_)
    · exact Ans.some (P19_0 x0 h0 h1 h2)
    · refine Ans.ite (fun h3 => ?_) (fun h3 => ?_)
      · exact Ans.some (P19_1 x0 h0 h1 h2 h3)
      · refine Ans.bind (fun y hy => ?_)
        replace hy := L19_0 n x0 (0 : Int) y hy
        cases y with
        | ret w0_2 =>
          have h4 := hy
          exact Ans.some (P19_2 x0 w0_2 h0 h1 h2 h3 h4)
        | x0 =>
          have h4 := hy
          exact Ans.some (P19_3 x0 h0 h1 h2 h3 h4)
  · exact Ans.some (P19_4 x0 h0)
theorem wrap1 (i : Nat) (h : i < 4611686018427387904) : IntKind.wrap .i64 ((i : Int) + 1) = ((i + 1 : Nat) : Int) := by
  simp only [IntKind.wrap, IntKind.bits, IntKind.signed]
  simp
  omega
theorem dlt (a b : Int) : decide (a < b) = !decide (a ≥ b) := by by_cases h : a < b <;> simp [h] <;> omega
theorem dgt (a b : Int) : decide (a > b) = !decide (a ≤ b) := by by_cases h : a > b <;> simp [h] <;> omega
theorem eq0 (i : Nat) : ((i : Int) == 0) = !decide (0 < i) := by
  cases i with
  | zero => rfl
  | succ i => simp; omega
theorem loop20_ok (s : ByteArray) (hs : s.size < 4611686018427387904) : ∀ (d i n : Nat), i + d = s.size → d < n → loop20_0 n s i = some (cond (allFrom s i d) .x0 (.ret false))
  | 0, i, n, hi, hn => by
    obtain ⟨n, rfl⟩ : ∃ m, n = m + 1 := ⟨n - 1, by omega⟩
    simp only [loop20_0, allFrom]
    rw [show decide ((i : Int) < (s.size : Int)) = false by simp; omega]
    rfl
  | d + 1, i, n, hi, hn => by
    obtain ⟨n, rfl⟩ : ∃ m, n = m + 1 := ⟨n - 1, by omega⟩
    have ih := loop20_ok s hs d (i + 1) n (by omega) (by omega)
    simp only [loop20_0, allFrom, okAt]
    rw [show decide ((i : Int) < (s.size : Int)) = true by simp; omega, if_pos ⟨by omega, by omega⟩, wrap1 i (by omega), ih, dlt, dgt, eq0]
    generalize decide (bytAt s i ≥ 97) = p1; generalize decide (bytAt s i ≤ 122) = p2; generalize decide (bytAt s i ≥ 48) = p3; generalize decide (bytAt s i ≤ 57) = p4
    generalize decide (0 < i) = p5; generalize allFrom s (i + 1) d = p6
    cases p1 <;> cases p2 <;> cases p3 <;> cases p4 <;> cases p5 <;> cases p6 <;> rfl
theorem loop19_ok (s : ByteArray) (hs : s.size < 4611686018427387904) : ∀ (d i n : Nat), 0 < i → i + d = s.size → d < n → loop19_0 n s i = some (cond (allFrom s i d) .x0 (.ret false))
  | 0, i, n, h0, hi, hn => by
    obtain ⟨n, rfl⟩ : ∃ m, n = m + 1 := ⟨n - 1, by omega⟩
    simp only [loop19_0, allFrom]
    rw [show decide ((i : Int) < (s.size : Int)) = false by simp; omega]
    rfl
  | d + 1, i, n, h0, hi, hn => by
    obtain ⟨n, rfl⟩ : ∃ m, n = m + 1 := ⟨n - 1, by omega⟩
    have ih := loop19_ok s hs d (i + 1) n (by omega) (by omega) (by omega)
    simp only [loop19_0, allFrom, okAt]
    rw [show decide ((i : Int) < (s.size : Int)) = true by simp; omega, if_pos ⟨by omega, by omega⟩, wrap1 i (by omega), ih, dlt, dlt, dgt, dgt, show decide (0 < i) = true by simp [h0]]
    generalize decide (bytAt s i ≥ 97) = p1; generalize decide (bytAt s i ≤ 122) = p2; generalize decide (bytAt s i ≥ 48) = p3; generalize decide (bytAt s i ≤ 57) = p4
    generalize allFrom s (i + 1) d = p6
    cases p1 <;> cases p2 <;> cases p3 <;> cases p4 <;> cases p6 <;> rfl
theorem T20 (s : ByteArray) (hs : s.size < 4611686018427387904) : Does E 20 [.one (tS s)] [(false, [tB (nameOk s)])] :=
  D20 (s.size + 1) s _ (by
    unfold sem20 nameOk
    rw [show (0 : Int) = ((0 : Nat) : Int) from rfl, loop20_ok s hs s.size 0 (s.size + 1) (by omega) (by omega)]
    generalize inRange (s.size : Int) 1 8 = p; cases allFrom s 0 s.size <;> cases p <;> rfl)
theorem T19 (s : ByteArray) (hs : s.size < 4611686018427387904) : Does E 19 [.one (tS s)] [(false, [tB (nameOk s)])] :=
  D19 (s.size + 1) s _ (by
    unfold sem19 nameOk
    rcases hr : inRange (s.size : Int) 1 8 with _ | _
    · rfl
    · have h1 : 0 < s.size := by simp [inRange] at hr; omega
      simp only [cond_true, Bool.true_and]
      rw [if_pos ⟨by omega, by omega⟩]
      obtain ⟨d, hd⟩ : ∃ d, s.size = d + 1 := ⟨s.size - 1, by omega⟩
      rw [hd, allFrom, ← hd]
      simp only [okAt, dlt, dgt]
      rw [show ((0 : Nat) : Int) = 0 from rfl]
      cases ha : decide (bytAt s 0 ≥ 97)
      · simp
      · cases hb : decide (bytAt s 0 ≤ 122)
        · simp
        · have h2 : loop19_0 (s.size + 1) s 0 = loop19_0 s.size s 1 := by
            simp only [loop19_0, dlt, dgt, ha, hb]
            rw [show decide ((0 : Int) ≥ (s.size : Int)) = false from decide_eq_false (by omega), if_pos ⟨by omega, by omega⟩]
            rfl
          rw [h2, show (1 : Int) = ((1 : Nat) : Int) from rfl, loop19_ok s hs d 1 s.size (by omega) (by omega) (by omega)]
          cases allFrom s 1 d <;> rfl)
end Go.Proofs.Ytbphhigmepdohaa.Am
namespace Go.Proofs.Ytbphhigmepdohaa.Am
set_option linter.unusedVariables false
set_option linter.unusedSimpArgs false
open Go Go.Proofs
set_option maxRecDepth 100000
set_option linter.unusedVariables false
-- function 22: loop.example/g00188/spec.CommandOk
theorem L22_0 (x0 : S26) (h0 : (inRange x0.f1 (0 : Int) (1000000 : Int)) = true) (h1 : (inRange x0.f2 (0 : Int) (1000000 : Int)) = true) (h2 : (x0.f0 == (1 : Int)) = true) (h3 : (x0.f1 == (0 : Int)) = true) (h4 : (x0.f2 == (0 : Int)) = true) : Does E 22 [.agg (S26.t .far x0)] [(false, [tB (rest x0 false false false false false)])] :=
  Does.path (fn := Try.f22) [.ret [(false, [tB true])], .ret [(false, [tB true])], .b true, .b true, .b true, .ret [(false, [tB (rest x0 false false false false false)])]] [fun k => E.C k 71 [.one (tI x0.f1), .one (tI (0 : Int)), .one (tI (1000000 : Int))] = some [(false, [tB true])], fun k => E.C k 71 [.one (tI x0.f2), .one (tI (0 : Int)), .one (tI (1000000 : Int))] = some [(false, [tB true])], fun _ => (x0.f0 == (1 : Int)) = true, fun _ => (x0.f1 == (0 : Int)) = true, fun _ => (x0.f2 == (0 : Int)) = true, fun k => E.C k 73 [.agg (S26.t .far x0), .one (tB false), .one (tB false), .one (tB false), .one (tB false), .one (tB false)] = some [(false, [tB (rest x0 false false false false false)])]] rfl rfl (fun k => by kernel_rfl) ⟨Does.to (T71 x0.f1 (0 : Int) (1000000 : Int)) (by rw [h0]), Does.to (T71 x0.f2 (0 : Int) (1000000 : Int)) (by rw [h1]), Ev.c h2, Ev.c h3, Ev.c h4, T73 x0 false false false false false, trivial⟩
theorem L22_1 (x0 : S26) (h0 : (inRange x0.f1 (0 : Int) (1000000 : Int)) = true) (h1 : (inRange x0.f2 (0 : Int) (1000000 : Int)) = true) (h2 : (x0.f0 == (1 : Int)) = true) (h3 : (x0.f1 == (0 : Int)) = true) (h4 : (x0.f2 == (0 : Int)) = false) : Does E 22 [.agg (S26.t .far x0)] [(false, [tB false])] :=
  Does.path (fn := Try.f22) [.ret [(false, [tB true])], .ret [(false, [tB true])], .b true, .b true, .b false] [fun k => E.C k 71 [.one (tI x0.f1), .one (tI (0 : Int)), .one (tI (1000000 : Int))] = some [(false, [tB true])], fun k => E.C k 71 [.one (tI x0.f2), .one (tI (0 : Int)), .one (tI (1000000 : Int))] = some [(false, [tB true])], fun _ => (x0.f0 == (1 : Int)) = true, fun _ => (x0.f1 == (0 : Int)) = true, fun _ => (x0.f2 == (0 : Int)) = false] rfl rfl (fun k => by kernel_rfl) ⟨Does.to (T71 x0.f1 (0 : Int) (1000000 : Int)) (by rw [h0]), Does.to (T71 x0.f2 (0 : Int) (1000000 : Int)) (by rw [h1]), Ev.c h2, Ev.c h3, Ev.c h4, trivial⟩
theorem L22_2 (x0 : S26) (h0 : (inRange x0.f1 (0 : Int) (1000000 : Int)) = true) (h1 : (inRange x0.f2 (0 : Int) (1000000 : Int)) = true) (h2 : (x0.f0 == (1 : Int)) = true) (h3 : (x0.f1 == (0 : Int)) = false) : Does E 22 [.agg (S26.t .far x0)] [(false, [tB false])] :=
  Does.path (fn := Try.f22) [.ret [(false, [tB true])], .ret [(false, [tB true])], .b true, .b false] [fun k => E.C k 71 [.one (tI x0.f1), .one (tI (0 : Int)), .one (tI (1000000 : Int))] = some [(false, [tB true])], fun k => E.C k 71 [.one (tI x0.f2), .one (tI (0 : Int)), .one (tI (1000000 : Int))] = some [(false, [tB true])], fun _ => (x0.f0 == (1 : Int)) = true, fun _ => (x0.f1 == (0 : Int)) = false] rfl rfl (fun k => by kernel_rfl) ⟨Does.to (T71 x0.f1 (0 : Int) (1000000 : Int)) (by rw [h0]), Does.to (T71 x0.f2 (0 : Int) (1000000 : Int)) (by rw [h1]), Ev.c h2, Ev.c h3, trivial⟩
theorem L22_3 (x0 : S26) (h0 : (inRange x0.f1 (0 : Int) (1000000 : Int)) = true) (h1 : (inRange x0.f2 (0 : Int) (1000000 : Int)) = true) (h2 : (x0.f0 == (1 : Int)) = false) (h3 : (x0.f0 == (2 : Int)) = true) (h4 : (decide ((x0.f3.size : Int) ≤ (600 : Int))) = true) : Does E 22 [.agg (S26.t .far x0)] [(false, [tB (rest x0 true false false false false)])] :=
  Does.path (fn := Try.f22) [.ret [(false, [tB true])], .ret [(false, [tB true])], .b false, .b true, .b true, .ret [(false, [tB (rest x0 true false false false false)])]] [fun k => E.C k 71 [.one (tI x0.f1), .one (tI (0 : Int)), .one (tI (1000000 : Int))] = some [(false, [tB true])], fun k => E.C k 71 [.one (tI x0.f2), .one (tI (0 : Int)), .one (tI (1000000 : Int))] = some [(false, [tB true])], fun _ => (x0.f0 == (1 : Int)) = false, fun _ => (x0.f0 == (2 : Int)) = true, fun _ => (decide ((x0.f3.size : Int) ≤ (600 : Int))) = true, fun k => E.C k 73 [.agg (S26.t .far x0), .one (tB true), .one (tB false), .one (tB false), .one (tB false), .one (tB false)] = some [(false, [tB (rest x0 true false false false false)])]] rfl rfl (fun k => by kernel_rfl) ⟨Does.to (T71 x0.f1 (0 : Int) (1000000 : Int)) (by rw [h0]), Does.to (T71 x0.f2 (0 : Int) (1000000 : Int)) (by rw [h1]), Ev.c h2, Ev.c h3, Ev.c h4, T73 x0 true false false false false, trivial⟩
theorem L22_4 (x0 : S26) (h0 : (inRange x0.f1 (0 : Int) (1000000 : Int)) = true) (h1 : (inRange x0.f2 (0 : Int) (1000000 : Int)) = true) (h2 : (x0.f0 == (1 : Int)) = false) (h3 : (x0.f0 == (2 : Int)) = true) (h4 : (decide ((x0.f3.size : Int) ≤ (600 : Int))) = false) : Does E 22 [.agg (S26.t .far x0)] [(false, [tB false])] :=
  Does.path (fn := Try.f22) [.ret [(false, [tB true])], .ret [(false, [tB true])], .b false, .b true, .b false] [fun k => E.C k 71 [.one (tI x0.f1), .one (tI (0 : Int)), .one (tI (1000000 : Int))] = some [(false, [tB true])], fun k => E.C k 71 [.one (tI x0.f2), .one (tI (0 : Int)), .one (tI (1000000 : Int))] = some [(false, [tB true])], fun _ => (x0.f0 == (1 : Int)) = false, fun _ => (x0.f0 == (2 : Int)) = true, fun _ => (decide ((x0.f3.size : Int) ≤ (600 : Int))) = false] rfl rfl (fun k => by kernel_rfl) ⟨Does.to (T71 x0.f1 (0 : Int) (1000000 : Int)) (by rw [h0]), Does.to (T71 x0.f2 (0 : Int) (1000000 : Int)) (by rw [h1]), Ev.c h2, Ev.c h3, Ev.c h4, trivial⟩
theorem L22_5 (x0 : S26) (h0 : (inRange x0.f1 (0 : Int) (1000000 : Int)) = true) (h1 : (inRange x0.f2 (0 : Int) (1000000 : Int)) = true) (h2 : (x0.f0 == (1 : Int)) = false) (h3 : (x0.f0 == (2 : Int)) = false) (h4 : (x0.f0 == (3 : Int)) = true) (h5 : x0.f3.size < 4611686018427387904) (h6 : (nameOk x0.f3) = true) : Does E 22 [.agg (S26.t .far x0)] [(false, [tB (rest x0 true false false false true)])] :=
  Does.path (fn := Try.f22) [.ret [(false, [tB true])], .ret [(false, [tB true])], .b false, .b false, .b true, .ret [(false, [tB true])], .ret [(false, [tB (rest x0 true false false false true)])]] [fun k => E.C k 71 [.one (tI x0.f1), .one (tI (0 : Int)), .one (tI (1000000 : Int))] = some [(false, [tB true])], fun k => E.C k 71 [.one (tI x0.f2), .one (tI (0 : Int)), .one (tI (1000000 : Int))] = some [(false, [tB true])], fun _ => (x0.f0 == (1 : Int)) = false, fun _ => (x0.f0 == (2 : Int)) = false, fun _ => (x0.f0 == (3 : Int)) = true, fun k => E.C k 19 [.one (tS x0.f3)] = some [(false, [tB true])], fun k => E.C k 73 [.agg (S26.t .far x0), .one (tB true), .one (tB false), .one (tB false), .one (tB false), .one (tB true)] = some [(false, [tB (rest x0 true false false false true)])]] rfl rfl (fun k => by kernel_rfl) ⟨Does.to (T71 x0.f1 (0 : Int) (1000000 : Int)) (by rw [h0]), Does.to (T71 x0.f2 (0 : Int) (1000000 : Int)) (by rw [h1]), Ev.c h2, Ev.c h3, Ev.c h4, Does.to (T19 x0.f3 h5) (by rw [h6]), T73 x0 true false false false true, trivial⟩
theorem L22_6 (x0 : S26) (h0 : (inRange x0.f1 (0 : Int) (1000000 : Int)) = true) (h1 : (inRange x0.f2 (0 : Int) (1000000 : Int)) = true) (h2 : (x0.f0 == (1 : Int)) = false) (h3 : (x0.f0 == (2 : Int)) = false) (h4 : (x0.f0 == (3 : Int)) = true) (h5 : x0.f3.size < 4611686018427387904) (h6 : (nameOk x0.f3) = false) : Does E 22 [.agg (S26.t .far x0)] [(false, [tB false])] :=
  Does.path (fn := Try.f22) [.ret [(false, [tB true])], .ret [(false, [tB true])], .b false, .b false, .b true, .ret [(false, [tB false])]] [fun k => E.C k 71 [.one (tI x0.f1), .one (tI (0 : Int)), .one (tI (1000000 : Int))] = some [(false, [tB true])], fun k => E.C k 71 [.one (tI x0.f2), .one (tI (0 : Int)), .one (tI (1000000 : Int))] = some [(false, [tB true])], fun _ => (x0.f0 == (1 : Int)) = false, fun _ => (x0.f0 == (2 : Int)) = false, fun _ => (x0.f0 == (3 : Int)) = true, fun k => E.C k 19 [.one (tS x0.f3)] = some [(false, [tB false])]] rfl rfl (fun k => by kernel_rfl) ⟨Does.to (T71 x0.f1 (0 : Int) (1000000 : Int)) (by rw [h0]), Does.to (T71 x0.f2 (0 : Int) (1000000 : Int)) (by rw [h1]), Ev.c h2, Ev.c h3, Ev.c h4, Does.to (T19 x0.f3 h5) (by rw [h6]), trivial⟩
theorem L22_7 (x0 : S26) (h0 : (inRange x0.f1 (0 : Int) (1000000 : Int)) = true) (h1 : (inRange x0.f2 (0 : Int) (1000000 : Int)) = true) (h2 : (x0.f0 == (1 : Int)) = false) (h3 : (x0.f0 == (2 : Int)) = false) (h4 : (x0.f0 == (3 : Int)) = false) (h5 : (x0.f0 == (4 : Int)) = true) (h6 : (inRange x0.f5 (0 : Int) (68374079 : Int)) = true) : Does E 22 [.agg (S26.t .far x0)] [(false, [tB (rest x0 false false true false false)])] :=
  Does.path (fn := Try.f22) [.ret [(false, [tB true])], .ret [(false, [tB true])], .b false, .b false, .b false, .b true, .ret [(false, [tB true])], .ret [(false, [tB (rest x0 false false true false false)])]] [fun k => E.C k 71 [.one (tI x0.f1), .one (tI (0 : Int)), .one (tI (1000000 : Int))] = some [(false, [tB true])], fun k => E.C k 71 [.one (tI x0.f2), .one (tI (0 : Int)), .one (tI (1000000 : Int))] = some [(false, [tB true])], fun _ => (x0.f0 == (1 : Int)) = false, fun _ => (x0.f0 == (2 : Int)) = false, fun _ => (x0.f0 == (3 : Int)) = false, fun _ => (x0.f0 == (4 : Int)) = true, fun k => E.C k 71 [.one (tI x0.f5), .one (tI (0 : Int)), .one (tI (68374079 : Int))] = some [(false, [tB true])], fun k => E.C k 73 [.agg (S26.t .far x0), .one (tB false), .one (tB false), .one (tB true), .one (tB false), .one (tB false)] = some [(false, [tB (rest x0 false false true false false)])]] rfl rfl (fun k => by kernel_rfl) ⟨Does.to (T71 x0.f1 (0 : Int) (1000000 : Int)) (by rw [h0]), Does.to (T71 x0.f2 (0 : Int) (1000000 : Int)) (by rw [h1]), Ev.c h2, Ev.c h3, Ev.c h4, Ev.c h5, Does.to (T71 x0.f5 (0 : Int) (68374079 : Int)) (by rw [h6]), T73 x0 false false true false false, trivial⟩
theorem L22_8 (x0 : S26) (h0 : (inRange x0.f1 (0 : Int) (1000000 : Int)) = true) (h1 : (inRange x0.f2 (0 : Int) (1000000 : Int)) = true) (h2 : (x0.f0 == (1 : Int)) = false) (h3 : (x0.f0 == (2 : Int)) = false) (h4 : (x0.f0 == (3 : Int)) = false) (h5 : (x0.f0 == (4 : Int)) = true) (h6 : (inRange x0.f5 (0 : Int) (68374079 : Int)) = false) : Does E 22 [.agg (S26.t .far x0)] [(false, [tB false])] :=
  Does.path (fn := Try.f22) [.ret [(false, [tB true])], .ret [(false, [tB true])], .b false, .b false, .b false, .b true, .ret [(false, [tB false])]] [fun k => E.C k 71 [.one (tI x0.f1), .one (tI (0 : Int)), .one (tI (1000000 : Int))] = some [(false, [tB true])], fun k => E.C k 71 [.one (tI x0.f2), .one (tI (0 : Int)), .one (tI (1000000 : Int))] = some [(false, [tB true])], fun _ => (x0.f0 == (1 : Int)) = false, fun _ => (x0.f0 == (2 : Int)) = false, fun _ => (x0.f0 == (3 : Int)) = false, fun _ => (x0.f0 == (4 : Int)) = true, fun k => E.C k 71 [.one (tI x0.f5), .one (tI (0 : Int)), .one (tI (68374079 : Int))] = some [(false, [tB false])]] rfl rfl (fun k => by kernel_rfl) ⟨Does.to (T71 x0.f1 (0 : Int) (1000000 : Int)) (by rw [h0]), Does.to (T71 x0.f2 (0 : Int) (1000000 : Int)) (by rw [h1]), Ev.c h2, Ev.c h3, Ev.c h4, Ev.c h5, Does.to (T71 x0.f5 (0 : Int) (68374079 : Int)) (by rw [h6]), trivial⟩
theorem L22_9 (x0 : S26) (h0 : (inRange x0.f1 (0 : Int) (1000000 : Int)) = true) (h1 : (inRange x0.f2 (0 : Int) (1000000 : Int)) = true) (h2 : (x0.f0 == (1 : Int)) = false) (h3 : (x0.f0 == (2 : Int)) = false) (h4 : (x0.f0 == (3 : Int)) = false) (h5 : (x0.f0 == (4 : Int)) = false) (h6 : (x0.f0 == (5 : Int)) = true) : Does E 22 [.agg (S26.t .far x0)] [(false, [tB (rest x0 false false false false false)])] :=
  Does.path (fn := Try.f22) [.ret [(false, [tB true])], .ret [(false, [tB true])], .b false, .b false, .b false, .b false, .b true, .ret [(false, [tB (rest x0 false false false false false)])]] [fun k => E.C k 71 [.one (tI x0.f1), .one (tI (0 : Int)), .one (tI (1000000 : Int))] = some [(false, [tB true])], fun k => E.C k 71 [.one (tI x0.f2), .one (tI (0 : Int)), .one (tI (1000000 : Int))] = some [(false, [tB true])], fun _ => (x0.f0 == (1 : Int)) = false, fun _ => (x0.f0 == (2 : Int)) = false, fun _ => (x0.f0 == (3 : Int)) = false, fun _ => (x0.f0 == (4 : Int)) = false, fun _ => (x0.f0 == (5 : Int)) = true, fun k => E.C k 73 [.agg (S26.t .far x0), .one (tB false), .one (tB false), .one (tB false), .one (tB false), .one (tB false)] = some [(false, [tB (rest x0 false false false false false)])]] rfl rfl (fun k => by kernel_rfl) ⟨Does.to (T71 x0.f1 (0 : Int) (1000000 : Int)) (by rw [h0]), Does.to (T71 x0.f2 (0 : Int) (1000000 : Int)) (by rw [h1]), Ev.c h2, Ev.c h3, Ev.c h4, Ev.c h5, Ev.c h6, T73 x0 false false false false false, trivial⟩
theorem L22_10 (x0 : S26) (h0 : (inRange x0.f1 (0 : Int) (1000000 : Int)) = true) (h1 : (inRange x0.f2 (0 : Int) (1000000 : Int)) = true) (h2 : (x0.f0 == (1 : Int)) = false) (h3 : (x0.f0 == (2 : Int)) = false) (h4 : (x0.f0 == (3 : Int)) = false) (h5 : (x0.f0 == (4 : Int)) = false) (h6 : (x0.f0 == (5 : Int)) = false) (h7 : (x0.f0 == (6 : Int)) = true) (h8 : (inRange x0.f5 (0 : Int) (1000000000 : Int)) = true) : Does E 22 [.agg (S26.t .far x0)] [(false, [tB (rest x0 false false true false false)])] :=
  Does.path (fn := Try.f22) [.ret [(false, [tB true])], .ret [(false, [tB true])], .b false, .b false, .b false, .b false, .b false, .b true, .ret [(false, [tB true])], .ret [(false, [tB (rest x0 false false true false false)])]] [fun k => E.C k 71 [.one (tI x0.f1), .one (tI (0 : Int)), .one (tI (1000000 : Int))] = some [(false, [tB true])], fun k => E.C k 71 [.one (tI x0.f2), .one (tI (0 : Int)), .one (tI (1000000 : Int))] = some [(false, [tB true])], fun _ => (x0.f0 == (1 : Int)) = false, fun _ => (x0.f0 == (2 : Int)) = false, fun _ => (x0.f0 == (3 : Int)) = false, fun _ => (x0.f0 == (4 : Int)) = false, fun _ => (x0.f0 == (5 : Int)) = false, fun _ => (x0.f0 == (6 : Int)) = true, fun k => E.C k 71 [.one (tI x0.f5), .one (tI (0 : Int)), .one (tI (1000000000 : Int))] = some [(false, [tB true])], fun k => E.C k 73 [.agg (S26.t .far x0), .one (tB false), .one (tB false), .one (tB true), .one (tB false), .one (tB false)] = some [(false, [tB (rest x0 false false true false false)])]] rfl rfl (fun k => by kernel_rfl) ⟨Does.to (T71 x0.f1 (0 : Int) (1000000 : Int)) (by rw [h0]), Does.to (T71 x0.f2 (0 : Int) (1000000 : Int)) (by rw [h1]), Ev.c h2, Ev.c h3, Ev.c h4, Ev.c h5, Ev.c h6, Ev.c h7, Does.to (T71 x0.f5 (0 : Int) (1000000000 : Int)) (by rw [h8]), T73 x0 false false true false false, trivial⟩
theorem L22_11 (x0 : S26) (h0 : (inRange x0.f1 (0 : Int) (1000000 : Int)) = true) (h1 : (inRange x0.f2 (0 : Int) (1000000 : Int)) = true) (h2 : (x0.f0 == (1 : Int)) = false) (h3 : (x0.f0 == (2 : Int)) = false) (h4 : (x0.f0 == (3 : Int)) = false) (h5 : (x0.f0 == (4 : Int)) = false) (h6 : (x0.f0 == (5 : Int)) = false) (h7 : (x0.f0 == (6 : Int)) = true) (h8 : (inRange x0.f5 (0 : Int) (1000000000 : Int)) = false) : Does E 22 [.agg (S26.t .far x0)] [(false, [tB false])] :=
  Does.path (fn := Try.f22) [.ret [(false, [tB true])], .ret [(false, [tB true])], .b false, .b false, .b false, .b false, .b false, .b true, .ret [(false, [tB false])]] [fun k => E.C k 71 [.one (tI x0.f1), .one (tI (0 : Int)), .one (tI (1000000 : Int))] = some [(false, [tB true])], fun k => E.C k 71 [.one (tI x0.f2), .one (tI (0 : Int)), .one (tI (1000000 : Int))] = some [(false, [tB true])], fun _ => (x0.f0 == (1 : Int)) = false, fun _ => (x0.f0 == (2 : Int)) = false, fun _ => (x0.f0 == (3 : Int)) = false, fun _ => (x0.f0 == (4 : Int)) = false, fun _ => (x0.f0 == (5 : Int)) = false, fun _ => (x0.f0 == (6 : Int)) = true, fun k => E.C k 71 [.one (tI x0.f5), .one (tI (0 : Int)), .one (tI (1000000000 : Int))] = some [(false, [tB false])]] rfl rfl (fun k => by kernel_rfl) ⟨Does.to (T71 x0.f1 (0 : Int) (1000000 : Int)) (by rw [h0]), Does.to (T71 x0.f2 (0 : Int) (1000000 : Int)) (by rw [h1]), Ev.c h2, Ev.c h3, Ev.c h4, Ev.c h5, Ev.c h6, Ev.c h7, Does.to (T71 x0.f5 (0 : Int) (1000000000 : Int)) (by rw [h8]), trivial⟩
theorem L22_12 (x0 : S26) (h0 : (inRange x0.f1 (0 : Int) (1000000 : Int)) = true) (h1 : (inRange x0.f2 (0 : Int) (1000000 : Int)) = true) (h2 : (x0.f0 == (1 : Int)) = false) (h3 : (x0.f0 == (2 : Int)) = false) (h4 : (x0.f0 == (3 : Int)) = false) (h5 : (x0.f0 == (4 : Int)) = false) (h6 : (x0.f0 == (5 : Int)) = false) (h7 : (x0.f0 == (6 : Int)) = false) (h8 : (x0.f0 == (7 : Int)) = true) (h9 : (inRange x0.f5 (0 : Int) (1000000000 : Int)) = true) : Does E 22 [.agg (S26.t .far x0)] [(false, [tB (rest x0 false false true false true)])] :=
  Does.path (fn := Try.f22) [.ret [(false, [tB true])], .ret [(false, [tB true])], .b false, .b false, .b false, .b false, .b false, .b false, .b true, .ret [(false, [tB true])], .ret [(false, [tB (rest x0 false false true false true)])]] [fun k => E.C k 71 [.one (tI x0.f1), .one (tI (0 : Int)), .one (tI (1000000 : Int))] = some [(false, [tB true])], fun k => E.C k 71 [.one (tI x0.f2), .one (tI (0 : Int)), .one (tI (1000000 : Int))] = some [(false, [tB true])], fun _ => (x0.f0 == (1 : Int)) = false, fun _ => (x0.f0 == (2 : Int)) = false, fun _ => (x0.f0 == (3 : Int)) = false, fun _ => (x0.f0 == (4 : Int)) = false, fun _ => (x0.f0 == (5 : Int)) = false, fun _ => (x0.f0 == (6 : Int)) = false, fun _ => (x0.f0 == (7 : Int)) = true, fun k => E.C k 71 [.one (tI x0.f5), .one (tI (0 : Int)), .one (tI (1000000000 : Int))] = some [(false, [tB true])], fun k => E.C k 73 [.agg (S26.t .far x0), .one (tB false), .one (tB false), .one (tB true), .one (tB false), .one (tB true)] = some [(false, [tB (rest x0 false false true false true)])]] rfl rfl (fun k => by kernel_rfl) ⟨Does.to (T71 x0.f1 (0 : Int) (1000000 : Int)) (by rw [h0]), Does.to (T71 x0.f2 (0 : Int) (1000000 : Int)) (by rw [h1]), Ev.c h2, Ev.c h3, Ev.c h4, Ev.c h5, Ev.c h6, Ev.c h7, Ev.c h8, Does.to (T71 x0.f5 (0 : Int) (1000000000 : Int)) (by rw [h9]), T73 x0 false false true false true, trivial⟩
theorem L22_13 (x0 : S26) (h0 : (inRange x0.f1 (0 : Int) (1000000 : Int)) = true) (h1 : (inRange x0.f2 (0 : Int) (1000000 : Int)) = true) (h2 : (x0.f0 == (1 : Int)) = false) (h3 : (x0.f0 == (2 : Int)) = false) (h4 : (x0.f0 == (3 : Int)) = false) (h5 : (x0.f0 == (4 : Int)) = false) (h6 : (x0.f0 == (5 : Int)) = false) (h7 : (x0.f0 == (6 : Int)) = false) (h8 : (x0.f0 == (7 : Int)) = true) (h9 : (inRange x0.f5 (0 : Int) (1000000000 : Int)) = false) : Does E 22 [.agg (S26.t .far x0)] [(false, [tB false])] :=
  Does.path (fn := Try.f22) [.ret [(false, [tB true])], .ret [(false, [tB true])], .b false, .b false, .b false, .b false, .b false, .b false, .b true, .ret [(false, [tB false])]] [fun k => E.C k 71 [.one (tI x0.f1), .one (tI (0 : Int)), .one (tI (1000000 : Int))] = some [(false, [tB true])], fun k => E.C k 71 [.one (tI x0.f2), .one (tI (0 : Int)), .one (tI (1000000 : Int))] = some [(false, [tB true])], fun _ => (x0.f0 == (1 : Int)) = false, fun _ => (x0.f0 == (2 : Int)) = false, fun _ => (x0.f0 == (3 : Int)) = false, fun _ => (x0.f0 == (4 : Int)) = false, fun _ => (x0.f0 == (5 : Int)) = false, fun _ => (x0.f0 == (6 : Int)) = false, fun _ => (x0.f0 == (7 : Int)) = true, fun k => E.C k 71 [.one (tI x0.f5), .one (tI (0 : Int)), .one (tI (1000000000 : Int))] = some [(false, [tB false])]] rfl rfl (fun k => by kernel_rfl) ⟨Does.to (T71 x0.f1 (0 : Int) (1000000 : Int)) (by rw [h0]), Does.to (T71 x0.f2 (0 : Int) (1000000 : Int)) (by rw [h1]), Ev.c h2, Ev.c h3, Ev.c h4, Ev.c h5, Ev.c h6, Ev.c h7, Ev.c h8, Does.to (T71 x0.f5 (0 : Int) (1000000000 : Int)) (by rw [h9]), trivial⟩
theorem L22_14 (x0 : S26) (h0 : (inRange x0.f1 (0 : Int) (1000000 : Int)) = true) (h1 : (inRange x0.f2 (0 : Int) (1000000 : Int)) = true) (h2 : (x0.f0 == (1 : Int)) = false) (h3 : (x0.f0 == (2 : Int)) = false) (h4 : (x0.f0 == (3 : Int)) = false) (h5 : (x0.f0 == (4 : Int)) = false) (h6 : (x0.f0 == (5 : Int)) = false) (h7 : (x0.f0 == (6 : Int)) = false) (h8 : (x0.f0 == (7 : Int)) = false) (h9 : (x0.f0 == (8 : Int)) = true) (h10 : x0.f3.size < 4611686018427387904) (h11 : (nameOk x0.f3) = true) (h12 : (inRange x0.f5 (0 : Int) (68374079 : Int)) = true) (h13 : (inRange x0.f6 (0 : Int) (68374079 : Int)) = true) : Does E 22 [.agg (S26.t .far x0)] [(false, [tB (rest x0 true false true true false)])] :=
  Does.path (fn := Try.f22) [.ret [(false, [tB true])], .ret [(false, [tB true])], .b false, .b false, .b false, .b false, .b false, .b false, .b false, .b true, .ret [(false, [tB true])], .ret [(false, [tB true])], .ret [(false, [tB true])], .ret [(false, [tB (rest x0 true false true true false)])]] [fun k => E.C k 71 [.one (tI x0.f1), .one (tI (0 : Int)), .one (tI (1000000 : Int))] = some [(false, [tB true])], fun k => E.C k 71 [.one (tI x0.f2), .one (tI (0 : Int)), .one (tI (1000000 : Int))] = some [(false, [tB true])], fun _ => (x0.f0 == (1 : Int)) = false, fun _ => (x0.f0 == (2 : Int)) = false, fun _ => (x0.f0 == (3 : Int)) = false, fun _ => (x0.f0 == (4 : Int)) = false, fun _ => (x0.f0 == (5 : Int)) = false, fun _ => (x0.f0 == (6 : Int)) = false, fun _ => (x0.f0 == (7 : Int)) = false, fun _ => (x0.f0 == (8 : Int)) = true, fun k => E.C k 19 [.one (tS x0.f3)] = some [(false, [tB true])], fun k => E.C k 71 [.one (tI x0.f5), .one (tI (0 : Int)), .one (tI (68374079 : Int))] = some [(false, [tB true])], fun k => E.C k 71 [.one (tI x0.f6), .one (tI (0 : Int)), .one (tI (68374079 : Int))] = some [(false, [tB true])], fun k => E.C k 73 [.agg (S26.t .far x0), .one (tB true), .one (tB false), .one (tB true), .one (tB true), .one (tB false)] = some [(false, [tB (rest x0 true false true true false)])]] rfl rfl (fun k => by kernel_rfl) ⟨Does.to (T71 x0.f1 (0 : Int) (1000000 : Int)) (by rw [h0]), Does.to (T71 x0.f2 (0 : Int) (1000000 : Int)) (by rw [h1]), Ev.c h2, Ev.c h3, Ev.c h4, Ev.c h5, Ev.c h6, Ev.c h7, Ev.c h8, Ev.c h9, Does.to (T19 x0.f3 h10) (by rw [h11]), Does.to (T71 x0.f5 (0 : Int) (68374079 : Int)) (by rw [h12]), Does.to (T71 x0.f6 (0 : Int) (68374079 : Int)) (by rw [h13]), T73 x0 true false true true false, trivial⟩
theorem L22_15 (x0 : S26) (h0 : (inRange x0.f1 (0 : Int) (1000000 : Int)) = true) (h1 : (inRange x0.f2 (0 : Int) (1000000 : Int)) = true) (h2 : (x0.f0 == (1 : Int)) = false) (h3 : (x0.f0 == (2 : Int)) = false) (h4 : (x0.f0 == (3 : Int)) = false) (h5 : (x0.f0 == (4 : Int)) = false) (h6 : (x0.f0 == (5 : Int)) = false) (h7 : (x0.f0 == (6 : Int)) = false) (h8 : (x0.f0 == (7 : Int)) = false) (h9 : (x0.f0 == (8 : Int)) = true) (h10 : x0.f3.size < 4611686018427387904) (h11 : (nameOk x0.f3) = true) (h12 : (inRange x0.f5 (0 : Int) (68374079 : Int)) = true) (h13 : (inRange x0.f6 (0 : Int) (68374079 : Int)) = false) : Does E 22 [.agg (S26.t .far x0)] [(false, [tB false])] :=
  Does.path (fn := Try.f22) [.ret [(false, [tB true])], .ret [(false, [tB true])], .b false, .b false, .b false, .b false, .b false, .b false, .b false, .b true, .ret [(false, [tB true])], .ret [(false, [tB true])], .ret [(false, [tB false])]] [fun k => E.C k 71 [.one (tI x0.f1), .one (tI (0 : Int)), .one (tI (1000000 : Int))] = some [(false, [tB true])], fun k => E.C k 71 [.one (tI x0.f2), .one (tI (0 : Int)), .one (tI (1000000 : Int))] = some [(false, [tB true])], fun _ => (x0.f0 == (1 : Int)) = false, fun _ => (x0.f0 == (2 : Int)) = false, fun _ => (x0.f0 == (3 : Int)) = false, fun _ => (x0.f0 == (4 : Int)) = false, fun _ => (x0.f0 == (5 : Int)) = false, fun _ => (x0.f0 == (6 : Int)) = false, fun _ => (x0.f0 == (7 : Int)) = false, fun _ => (x0.f0 == (8 : Int)) = true, fun k => E.C k 19 [.one (tS x0.f3)] = some [(false, [tB true])], fun k => E.C k 71 [.one (tI x0.f5), .one (tI (0 : Int)), .one (tI (68374079 : Int))] = some [(false, [tB true])], fun k => E.C k 71 [.one (tI x0.f6), .one (tI (0 : Int)), .one (tI (68374079 : Int))] = some [(false, [tB false])]] rfl rfl (fun k => by kernel_rfl) ⟨Does.to (T71 x0.f1 (0 : Int) (1000000 : Int)) (by rw [h0]), Does.to (T71 x0.f2 (0 : Int) (1000000 : Int)) (by rw [h1]), Ev.c h2, Ev.c h3, Ev.c h4, Ev.c h5, Ev.c h6, Ev.c h7, Ev.c h8, Ev.c h9, Does.to (T19 x0.f3 h10) (by rw [h11]), Does.to (T71 x0.f5 (0 : Int) (68374079 : Int)) (by rw [h12]), Does.to (T71 x0.f6 (0 : Int) (68374079 : Int)) (by rw [h13]), trivial⟩
theorem L22_16 (x0 : S26) (h0 : (inRange x0.f1 (0 : Int) (1000000 : Int)) = true) (h1 : (inRange x0.f2 (0 : Int) (1000000 : Int)) = true) (h2 : (x0.f0 == (1 : Int)) = false) (h3 : (x0.f0 == (2 : Int)) = false) (h4 : (x0.f0 == (3 : Int)) = false) (h5 : (x0.f0 == (4 : Int)) = false) (h6 : (x0.f0 == (5 : Int)) = false) (h7 : (x0.f0 == (6 : Int)) = false) (h8 : (x0.f0 == (7 : Int)) = false) (h9 : (x0.f0 == (8 : Int)) = true) (h10 : x0.f3.size < 4611686018427387904) (h11 : (nameOk x0.f3) = true) (h12 : (inRange x0.f5 (0 : Int) (68374079 : Int)) = false) : Does E 22 [.agg (S26.t .far x0)] [(false, [tB false])] :=
  Does.path (fn := Try.f22) [.ret [(false, [tB true])], .ret [(false, [tB true])], .b false, .b false, .b false, .b false, .b false, .b false, .b false, .b true, .ret [(false, [tB true])], .ret [(false, [tB false])]] [fun k => E.C k 71 [.one (tI x0.f1), .one (tI (0 : Int)), .one (tI (1000000 : Int))] = some [(false, [tB true])], fun k => E.C k 71 [.one (tI x0.f2), .one (tI (0 : Int)), .one (tI (1000000 : Int))] = some [(false, [tB true])], fun _ => (x0.f0 == (1 : Int)) = false, fun _ => (x0.f0 == (2 : Int)) = false, fun _ => (x0.f0 == (3 : Int)) = false, fun _ => (x0.f0 == (4 : Int)) = false, fun _ => (x0.f0 == (5 : Int)) = false, fun _ => (x0.f0 == (6 : Int)) = false, fun _ => (x0.f0 == (7 : Int)) = false, fun _ => (x0.f0 == (8 : Int)) = true, fun k => E.C k 19 [.one (tS x0.f3)] = some [(false, [tB true])], fun k => E.C k 71 [.one (tI x0.f5), .one (tI (0 : Int)), .one (tI (68374079 : Int))] = some [(false, [tB false])]] rfl rfl (fun k => by kernel_rfl) ⟨Does.to (T71 x0.f1 (0 : Int) (1000000 : Int)) (by rw [h0]), Does.to (T71 x0.f2 (0 : Int) (1000000 : Int)) (by rw [h1]), Ev.c h2, Ev.c h3, Ev.c h4, Ev.c h5, Ev.c h6, Ev.c h7, Ev.c h8, Ev.c h9, Does.to (T19 x0.f3 h10) (by rw [h11]), Does.to (T71 x0.f5 (0 : Int) (68374079 : Int)) (by rw [h12]), trivial⟩
theorem L22_17 (x0 : S26) (h0 : (inRange x0.f1 (0 : Int) (1000000 : Int)) = true) (h1 : (inRange x0.f2 (0 : Int) (1000000 : Int)) = true) (h2 : (x0.f0 == (1 : Int)) = false) (h3 : (x0.f0 == (2 : Int)) = false) (h4 : (x0.f0 == (3 : Int)) = false) (h5 : (x0.f0 == (4 : Int)) = false) (h6 : (x0.f0 == (5 : Int)) = false) (h7 : (x0.f0 == (6 : Int)) = false) (h8 : (x0.f0 == (7 : Int)) = false) (h9 : (x0.f0 == (8 : Int)) = true) (h10 : x0.f3.size < 4611686018427387904) (h11 : (nameOk x0.f3) = false) : Does E 22 [.agg (S26.t .far x0)] [(false, [tB false])] :=
  Does.path (fn := Try.f22) [.ret [(false, [tB true])], .ret [(false, [tB true])], .b false, .b false, .b false, .b false, .b false, .b false, .b false, .b true, .ret [(false, [tB false])]] [fun k => E.C k 71 [.one (tI x0.f1), .one (tI (0 : Int)), .one (tI (1000000 : Int))] = some [(false, [tB true])], fun k => E.C k 71 [.one (tI x0.f2), .one (tI (0 : Int)), .one (tI (1000000 : Int))] = some [(false, [tB true])], fun _ => (x0.f0 == (1 : Int)) = false, fun _ => (x0.f0 == (2 : Int)) = false, fun _ => (x0.f0 == (3 : Int)) = false, fun _ => (x0.f0 == (4 : Int)) = false, fun _ => (x0.f0 == (5 : Int)) = false, fun _ => (x0.f0 == (6 : Int)) = false, fun _ => (x0.f0 == (7 : Int)) = false, fun _ => (x0.f0 == (8 : Int)) = true, fun k => E.C k 19 [.one (tS x0.f3)] = some [(false, [tB false])]] rfl rfl (fun k => by kernel_rfl) ⟨Does.to (T71 x0.f1 (0 : Int) (1000000 : Int)) (by rw [h0]), Does.to (T71 x0.f2 (0 : Int) (1000000 : Int)) (by rw [h1]), Ev.c h2, Ev.c h3, Ev.c h4, Ev.c h5, Ev.c h6, Ev.c h7, Ev.c h8, Ev.c h9, Does.to (T19 x0.f3 h10) (by rw [h11]), trivial⟩
theorem L22_18 (x0 : S26) (h0 : (inRange x0.f1 (0 : Int) (1000000 : Int)) = true) (h1 : (inRange x0.f2 (0 : Int) (1000000 : Int)) = true) (h2 : (x0.f0 == (1 : Int)) = false) (h3 : (x0.f0 == (2 : Int)) = false) (h4 : (x0.f0 == (3 : Int)) = false) (h5 : (x0.f0 == (4 : Int)) = false) (h6 : (x0.f0 == (5 : Int)) = false) (h7 : (x0.f0 == (6 : Int)) = false) (h8 : (x0.f0 == (7 : Int)) = false) (h9 : (x0.f0 == (8 : Int)) = false) (h10 : (x0.f0 == (9 : Int)) = true) (h11 : x0.f3.size < 4611686018427387904) (h12 : (nameOk x0.f3) = true) (h13 : x0.f4.size < 4611686018427387904) (h14 : (nameOk x0.f4) = true) (h15 : (inRange x0.f5 (0 : Int) (68374079 : Int)) = true) : Does E 22 [.agg (S26.t .far x0)] [(false, [tB (rest x0 true true true false false)])] :=
  Does.path (fn := Try.f22) [.ret [(false, [tB true])], .ret [(false, [tB true])], .b false, .b false, .b false, .b false, .b false, .b false, .b false, .b false, .b true, .ret [(false, [tB true])], .ret [(false, [tB true])], .ret [(false, [tB true])], .ret [(false, [tB (rest x0 true true true false false)])]] [fun k => E.C k 71 [.one (tI x0.f1), .one (tI (0 : Int)), .one (tI (1000000 : Int))] = some [(false, [tB true])], fun k => E.C k 71 [.one (tI x0.f2), .one (tI (0 : Int)), .one (tI (1000000 : Int))] = some [(false, [tB true])], fun _ => (x0.f0 == (1 : Int)) = false, fun _ => (x0.f0 == (2 : Int)) = false, fun _ => (x0.f0 == (3 : Int)) = false, fun _ => (x0.f0 == (4 : Int)) = false, fun _ => (x0.f0 == (5 : Int)) = false, fun _ => (x0.f0 == (6 : Int)) = false, fun _ => (x0.f0 == (7 : Int)) = false, fun _ => (x0.f0 == (8 : Int)) = false, fun _ => (x0.f0 == (9 : Int)) = true, fun k => E.C k 19 [.one (tS x0.f3)] = some [(false, [tB true])], fun k => E.C k 19 [.one (tS x0.f4)] = some [(false, [tB true])], fun k => E.C k 71 [.one (tI x0.f5), .one (tI (0 : Int)), .one (tI (68374079 : Int))] = some [(false, [tB true])], fun k => E.C k 73 [.agg (S26.t .far x0), .one (tB true), .one (tB true), .one (tB true), .one (tB false), .one (tB false)] = some [(false, [tB (rest x0 true true true false false)])]] rfl rfl (fun k => by kernel_rfl) ⟨Does.to (T71 x0.f1 (0 : Int) (1000000 : Int)) (by rw [h0]), Does.to (T71 x0.f2 (0 : Int) (1000000 : Int)) (by rw [h1]), Ev.c h2, Ev.c h3, Ev.c h4, Ev.c h5, Ev.c h6, Ev.c h7, Ev.c h8, Ev.c h9, Ev.c h10, Does.to (T19 x0.f3 h11) (by rw [h12]), Does.to (T19 x0.f4 h13) (by rw [h14]), Does.to (T71 x0.f5 (0 : Int) (68374079 : Int)) (by rw [h15]), T73 x0 true true true false false, trivial⟩
theorem L22_19 (x0 : S26) (h0 : (inRange x0.f1 (0 : Int) (1000000 : Int)) = true) (h1 : (inRange x0.f2 (0 : Int) (1000000 : Int)) = true) (h2 : (x0.f0 == (1 : Int)) = false) (h3 : (x0.f0 == (2 : Int)) = false) (h4 : (x0.f0 == (3 : Int)) = false) (h5 : (x0.f0 == (4 : Int)) = false) (h6 : (x0.f0 == (5 : Int)) = false) (h7 : (x0.f0 == (6 : Int)) = false) (h8 : (x0.f0 == (7 : Int)) = false) (h9 : (x0.f0 == (8 : Int)) = false) (h10 : (x0.f0 == (9 : Int)) = true) (h11 : x0.f3.size < 4611686018427387904) (h12 : (nameOk x0.f3) = true) (h13 : x0.f4.size < 4611686018427387904) (h14 : (nameOk x0.f4) = true) (h15 : (inRange x0.f5 (0 : Int) (68374079 : Int)) = false) : Does E 22 [.agg (S26.t .far x0)] [(false, [tB false])] :=
  Does.path (fn := Try.f22) [.ret [(false, [tB true])], .ret [(false, [tB true])], .b false, .b false, .b false, .b false, .b false, .b false, .b false, .b false, .b true, .ret [(false, [tB true])], .ret [(false, [tB true])], .ret [(false, [tB false])]] [fun k => E.C k 71 [.one (tI x0.f1), .one (tI (0 : Int)), .one (tI (1000000 : Int))] = some [(false, [tB true])], fun k => E.C k 71 [.one (tI x0.f2), .one (tI (0 : Int)), .one (tI (1000000 : Int))] = some [(false, [tB true])], fun _ => (x0.f0 == (1 : Int)) = false, fun _ => (x0.f0 == (2 : Int)) = false, fun _ => (x0.f0 == (3 : Int)) = false, fun _ => (x0.f0 == (4 : Int)) = false, fun _ => (x0.f0 == (5 : Int)) = false, fun _ => (x0.f0 == (6 : Int)) = false, fun _ => (x0.f0 == (7 : Int)) = false, fun _ => (x0.f0 == (8 : Int)) = false, fun _ => (x0.f0 == (9 : Int)) = true, fun k => E.C k 19 [.one (tS x0.f3)] = some [(false, [tB true])], fun k => E.C k 19 [.one (tS x0.f4)] = some [(false, [tB true])], fun k => E.C k 71 [.one (tI x0.f5), .one (tI (0 : Int)), .one (tI (68374079 : Int))] = some [(false, [tB false])]] rfl rfl (fun k => by kernel_rfl) ⟨Does.to (T71 x0.f1 (0 : Int) (1000000 : Int)) (by rw [h0]), Does.to (T71 x0.f2 (0 : Int) (1000000 : Int)) (by rw [h1]), Ev.c h2, Ev.c h3, Ev.c h4, Ev.c h5, Ev.c h6, Ev.c h7, Ev.c h8, Ev.c h9, Ev.c h10, Does.to (T19 x0.f3 h11) (by rw [h12]), Does.to (T19 x0.f4 h13) (by rw [h14]), Does.to (T71 x0.f5 (0 : Int) (68374079 : Int)) (by rw [h15]), trivial⟩
theorem L22_20 (x0 : S26) (h0 : (inRange x0.f1 (0 : Int) (1000000 : Int)) = true) (h1 : (inRange x0.f2 (0 : Int) (1000000 : Int)) = true) (h2 : (x0.f0 == (1 : Int)) = false) (h3 : (x0.f0 == (2 : Int)) = false) (h4 : (x0.f0 == (3 : Int)) = false) (h5 : (x0.f0 == (4 : Int)) = false) (h6 : (x0.f0 == (5 : Int)) = false) (h7 : (x0.f0 == (6 : Int)) = false) (h8 : (x0.f0 == (7 : Int)) = false) (h9 : (x0.f0 == (8 : Int)) = false) (h10 : (x0.f0 == (9 : Int)) = true) (h11 : x0.f3.size < 4611686018427387904) (h12 : (nameOk x0.f3) = true) (h13 : x0.f4.size < 4611686018427387904) (h14 : (nameOk x0.f4) = false) : Does E 22 [.agg (S26.t .far x0)] [(false, [tB false])] :=
  Does.path (fn := Try.f22) [.ret [(false, [tB true])], .ret [(false, [tB true])], .b false, .b false, .b false, .b false, .b false, .b false, .b false, .b false, .b true, .ret [(false, [tB true])], .ret [(false, [tB false])]] [fun k => E.C k 71 [.one (tI x0.f1), .one (tI (0 : Int)), .one (tI (1000000 : Int))] = some [(false, [tB true])], fun k => E.C k 71 [.one (tI x0.f2), .one (tI (0 : Int)), .one (tI (1000000 : Int))] = some [(false, [tB true])], fun _ => (x0.f0 == (1 : Int)) = false, fun _ => (x0.f0 == (2 : Int)) = false, fun _ => (x0.f0 == (3 : Int)) = false, fun _ => (x0.f0 == (4 : Int)) = false, fun _ => (x0.f0 == (5 : Int)) = false, fun _ => (x0.f0 == (6 : Int)) = false, fun _ => (x0.f0 == (7 : Int)) = false, fun _ => (x0.f0 == (8 : Int)) = false, fun _ => (x0.f0 == (9 : Int)) = true, fun k => E.C k 19 [.one (tS x0.f3)] = some [(false, [tB true])], fun k => E.C k 19 [.one (tS x0.f4)] = some [(false, [tB false])]] rfl rfl (fun k => by kernel_rfl) ⟨Does.to (T71 x0.f1 (0 : Int) (1000000 : Int)) (by rw [h0]), Does.to (T71 x0.f2 (0 : Int) (1000000 : Int)) (by rw [h1]), Ev.c h2, Ev.c h3, Ev.c h4, Ev.c h5, Ev.c h6, Ev.c h7, Ev.c h8, Ev.c h9, Ev.c h10, Does.to (T19 x0.f3 h11) (by rw [h12]), Does.to (T19 x0.f4 h13) (by rw [h14]), trivial⟩
theorem L22_21 (x0 : S26) (h0 : (inRange x0.f1 (0 : Int) (1000000 : Int)) = true) (h1 : (inRange x0.f2 (0 : Int) (1000000 : Int)) = true) (h2 : (x0.f0 == (1 : Int)) = false) (h3 : (x0.f0 == (2 : Int)) = false) (h4 : (x0.f0 == (3 : Int)) = false) (h5 : (x0.f0 == (4 : Int)) = false) (h6 : (x0.f0 == (5 : Int)) = false) (h7 : (x0.f0 == (6 : Int)) = false) (h8 : (x0.f0 == (7 : Int)) = false) (h9 : (x0.f0 == (8 : Int)) = false) (h10 : (x0.f0 == (9 : Int)) = true) (h11 : x0.f3.size < 4611686018427387904) (h12 : (nameOk x0.f3) = false) : Does E 22 [.agg (S26.t .far x0)] [(false, [tB false])] :=
  Does.path (fn := Try.f22) [.ret [(false, [tB true])], .ret [(false, [tB true])], .b false, .b false, .b false, .b false, .b false, .b false, .b false, .b false, .b true, .ret [(false, [tB false])]] [fun k => E.C k 71 [.one (tI x0.f1), .one (tI (0 : Int)), .one (tI (1000000 : Int))] = some [(false, [tB true])], fun k => E.C k 71 [.one (tI x0.f2), .one (tI (0 : Int)), .one (tI (1000000 : Int))] = some [(false, [tB true])], fun _ => (x0.f0 == (1 : Int)) = false, fun _ => (x0.f0 == (2 : Int)) = false, fun _ => (x0.f0 == (3 : Int)) = false, fun _ => (x0.f0 == (4 : Int)) = false, fun _ => (x0.f0 == (5 : Int)) = false, fun _ => (x0.f0 == (6 : Int)) = false, fun _ => (x0.f0 == (7 : Int)) = false, fun _ => (x0.f0 == (8 : Int)) = false, fun _ => (x0.f0 == (9 : Int)) = true, fun k => E.C k 19 [.one (tS x0.f3)] = some [(false, [tB false])]] rfl rfl (fun k => by kernel_rfl) ⟨Does.to (T71 x0.f1 (0 : Int) (1000000 : Int)) (by rw [h0]), Does.to (T71 x0.f2 (0 : Int) (1000000 : Int)) (by rw [h1]), Ev.c h2, Ev.c h3, Ev.c h4, Ev.c h5, Ev.c h6, Ev.c h7, Ev.c h8, Ev.c h9, Ev.c h10, Does.to (T19 x0.f3 h11) (by rw [h12]), trivial⟩
theorem L22_22 (x0 : S26) (h0 : (inRange x0.f1 (0 : Int) (1000000 : Int)) = true) (h1 : (inRange x0.f2 (0 : Int) (1000000 : Int)) = true) (h2 : (x0.f0 == (1 : Int)) = false) (h3 : (x0.f0 == (2 : Int)) = false) (h4 : (x0.f0 == (3 : Int)) = false) (h5 : (x0.f0 == (4 : Int)) = false) (h6 : (x0.f0 == (5 : Int)) = false) (h7 : (x0.f0 == (6 : Int)) = false) (h8 : (x0.f0 == (7 : Int)) = false) (h9 : (x0.f0 == (8 : Int)) = false) (h10 : (x0.f0 == (9 : Int)) = false) : Does E 22 [.agg (S26.t .far x0)] [(false, [tB false])] :=
  Does.path (fn := Try.f22) [.ret [(false, [tB true])], .ret [(false, [tB true])], .b false, .b false, .b false, .b false, .b false, .b false, .b false, .b false, .b false] [fun k => E.C k 71 [.one (tI x0.f1), .one (tI (0 : Int)), .one (tI (1000000 : Int))] = some [(false, [tB true])], fun k => E.C k 71 [.one (tI x0.f2), .one (tI (0 : Int)), .one (tI (1000000 : Int))] = some [(false, [tB true])], fun _ => (x0.f0 == (1 : Int)) = false, fun _ => (x0.f0 == (2 : Int)) = false, fun _ => (x0.f0 == (3 : Int)) = false, fun _ => (x0.f0 == (4 : Int)) = false, fun _ => (x0.f0 == (5 : Int)) = false, fun _ => (x0.f0 == (6 : Int)) = false, fun _ => (x0.f0 == (7 : Int)) = false, fun _ => (x0.f0 == (8 : Int)) = false, fun _ => (x0.f0 == (9 : Int)) = false] rfl rfl (fun k => by kernel_rfl) ⟨Does.to (T71 x0.f1 (0 : Int) (1000000 : Int)) (by rw [h0]), Does.to (T71 x0.f2 (0 : Int) (1000000 : Int)) (by rw [h1]), Ev.c h2, Ev.c h3, Ev.c h4, Ev.c h5, Ev.c h6, Ev.c h7, Ev.c h8, Ev.c h9, Ev.c h10, trivial⟩
theorem L22_23 (x0 : S26) (h0 : (inRange x0.f1 (0 : Int) (1000000 : Int)) = true) (h1 : (inRange x0.f2 (0 : Int) (1000000 : Int)) = false) : Does E 22 [.agg (S26.t .far x0)] [(false, [tB false])] :=
  Does.path (fn := Try.f22) [.ret [(false, [tB true])], .ret [(false, [tB false])]] [fun k => E.C k 71 [.one (tI x0.f1), .one (tI (0 : Int)), .one (tI (1000000 : Int))] = some [(false, [tB true])], fun k => E.C k 71 [.one (tI x0.f2), .one (tI (0 : Int)), .one (tI (1000000 : Int))] = some [(false, [tB false])]] rfl rfl (fun k => by kernel_rfl) ⟨Does.to (T71 x0.f1 (0 : Int) (1000000 : Int)) (by rw [h0]), Does.to (T71 x0.f2 (0 : Int) (1000000 : Int)) (by rw [h1]), trivial⟩
theorem L22_24 (x0 : S26) (h0 : (inRange x0.f1 (0 : Int) (1000000 : Int)) = false) : Does E 22 [.agg (S26.t .far x0)] [(false, [tB false])] :=
  Does.path (fn := Try.f22) [.ret [(false, [tB false])]] [fun k => E.C k 71 [.one (tI x0.f1), .one (tI (0 : Int)), .one (tI (1000000 : Int))] = some [(false, [tB false])]] rfl rfl (fun k => by kernel_rfl) ⟨Does.to (T71 x0.f1 (0 : Int) (1000000 : Int)) (by rw [h0]), trivial⟩
def sem22 (x0 : S26) : Option (Bool) :=
    cond (inRange x0.f1 (0 : Int) (1000000 : Int))
      (cond (inRange x0.f2 (0 : Int) (1000000 : Int))
        (cond (x0.f0 == (1 : Int))
          (cond (x0.f1 == (0 : Int))
            (cond (x0.f2 == (0 : Int))
              (some (rest x0 false false false false false))
              (some (false)))
            (some (false)))
          (cond (x0.f0 == (2 : Int))
            (cond (decide ((x0.f3.size : Int) ≤ (600 : Int)))
              (some (rest x0 true false false false false))
              (some (false)))
            (cond (x0.f0 == (3 : Int))
              (if x0.f3.size < 4611686018427387904 then cond (nameOk x0.f3)
                (some (rest x0 true false false false true))
                (some (false)) else none)
              (cond (x0.f0 == (4 : Int))
                (cond (inRange x0.f5 (0 : Int) (68374079 : Int))
                  (some (rest x0 false false true false false))
                  (some (false)))
                (cond (x0.f0 == (5 : Int))
                  (some (rest x0 false false false false false))
                  (cond (x0.f0 == (6 : Int))
                    (cond (inRange x0.f5 (0 : Int) (1000000000 : Int))
                      (some (rest x0 false false true false false))
                      (some (false)))
                    (cond (x0.f0 == (7 : Int))
                      (cond (inRange x0.f5 (0 : Int) (1000000000 : Int))
                        (some (rest x0 false false true false true))
                        (some (false)))
                      (cond (x0.f0 == (8 : Int))
                        (if x0.f3.size < 4611686018427387904 then cond (nameOk x0.f3)
                          (cond (inRange x0.f5 (0 : Int) (68374079 : Int))
                            (cond (inRange x0.f6 (0 : Int) (68374079 : Int))
                              (some (rest x0 true false true true false))
                              (some (false)))
                            (some (false)))
                          (some (false)) else none)
                        (cond (x0.f0 == (9 : Int))
                          (if x0.f3.size < 4611686018427387904 then cond (nameOk x0.f3)
                            (if x0.f4.size < 4611686018427387904 then cond (nameOk x0.f4)
                              (cond (inRange x0.f5 (0 : Int) (68374079 : Int))
                                (some (rest x0 true true true false false))
                                (some (false)))
                              (some (false)) else none)
                            (some (false)) else none)
                          (some (false)))))))))))
        (some (false)))
      (some (false))
theorem D22 (x0 : S26) : Ans (sem22 x0) (fun r => Does E 22 [.agg (S26.t .far x0)] [(false, [tB r])]) := by
  unfold sem22
  refine Ans.ite (fun h0 => ?_) (fun h0 => ?_)
  · refine Ans.ite (fun h1 => ?_) (fun h1 => ?_)
    · refine Ans.ite (fun h2 => ?_) (fun h2 => ?_)
      · refine Ans.ite (fun h3 => ?_) (fun h3 => ?_)
        · refine Ans.ite (fun h4 => ?_) (fun h4 => ?_)
          · exact Ans.some (L22_0 x0 h0 h1 h2 h3 h4)
          · exact Ans.some (L22_1 x0 h0 h1 h2 h3 h4)
        · exact Ans.some (L22_2 x0 h0 h1 h2 h3)
      · refine Ans.ite (fun h3 => ?_) (fun h3 => ?_)
        · refine Ans.ite (fun h4 => ?_) (fun h4 => ?_)
          · exact Ans.some (L22_3 x0 h0 h1 h2 h3 h4)
          · exact Ans.some (L22_4 x0 h0 h1 h2 h3 h4)
        · refine Ans.ite (fun h4 => ?_) (fun h4 => ?_)
          · refine Ans.pre (fun h5 => ?_)
            refine Ans.ite (fun h6 => ?_) (fun h6 => ?_)
            · exact Ans.some (L22_5 x0 h0 h1 h2 h3 h4 h5 h6)
            · exact Ans.some (L22_6 x0 h0 h1 h2 h3 h4 h5 h6)
          · refine Ans.ite (fun h5 => ?_) (fun h5 => ?_)
            · refine Ans.ite (fun h6 => ?_) (fun h6 => ?_)
              · exact Ans.some (L22_7 x0 h0 h1 h2 h3 h4 h5 h6)
              · exact Ans.some (L22_8 x0 h0 h1 h2 h3 h4 h5 h6)
            · refine Ans.ite (fun h6 => ?_) (fun h6 => ?_)
              · exact Ans.some (L22_9 x0 h0 h1 h2 h3 h4 h5 h6)
              · refine Ans.ite (fun h7 => ?_) (fun h7 => ?_)
                · refine Ans.ite (fun h8 => ?_) (fun h8 => ?_)
                  · exact Ans.some (L22_10 x0 h0 h1 h2 h3 h4 h5 h6 h7 h8)
                  · exact Ans.some (L22_11 x0 h0 h1 h2 h3 h4 h5 h6 h7 h8)
                · refine Ans.ite (fun h8 => ?_) (fun h8 => ?_)
                  · refine Ans.ite (fun h9 => ?_) (fun h9 => ?_)
                    · exact Ans.some (L22_12 x0 h0 h1 h2 h3 h4 h5 h6 h7 h8 h9)
                    · exact Ans.some (L22_13 x0 h0 h1 h2 h3 h4 h5 h6 h7 h8 h9)
                  · refine Ans.ite (fun h9 => ?_) (fun h9 => ?_)
                    · refine Ans.pre (fun h10 => ?_)
                      refine Ans.ite (fun h11 => ?_) (fun h11 => ?_)
                      · refine Ans.ite (fun h12 => ?_) (fun h12 => ?_)
                        · refine Ans.ite (fun h13 => ?_) (fun h13 => ?_)
                          · exact Ans.some (L22_14 x0 h0 h1 h2 h3 h4 h5 h6 h7 h8 h9 h10 h11 h12 h13)
                          · exact Ans.some (L22_15 x0 h0 h1 h2 h3 h4 h5 h6 h7 h8 h9 h10 h11 h12 h13)
                        · exact Ans.some (L22_16 x0 h0 h1 h2 h3 h4 h5 h6 h7 h8 h9 h10 h11 h12)
                      · exact Ans.some (L22_17 x0 h0 h1 h2 h3 h4 h5 h6 h7 h8 h9 h10 h11)
                    · refine Ans.ite (fun h10 => ?_) (fun h10 => ?_)
                      · refine Ans.pre (fun h11 => ?_)
                        refine Ans.ite (fun h12 => ?_) (fun h12 => ?_)
                        · refine Ans.pre (fun h13 => ?_)
                          refine Ans.ite (fun h14 => ?_) (fun h14 => ?_)
                          · refine Ans.ite (fun h15 => ?_) (fun h15 => ?_)
                            · exact Ans.some (L22_18 x0 h0 h1 h2 h3 h4 h5 h6 h7 h8 h9 h10 h11 h12 h13 h14 h15)
                            · exact Ans.some (L22_19 x0 h0 h1 h2 h3 h4 h5 h6 h7 h8 h9 h10 h11 h12 h13 h14 h15)
                          · exact Ans.some (L22_20 x0 h0 h1 h2 h3 h4 h5 h6 h7 h8 h9 h10 h11 h12 h13 h14)
                        · exact Ans.some (L22_21 x0 h0 h1 h2 h3 h4 h5 h6 h7 h8 h9 h10 h11 h12)
                      · exact Ans.some (L22_22 x0 h0 h1 h2 h3 h4 h5 h6 h7 h8 h9 h10)
    · exact Ans.some (L22_23 x0 h0 h1)
  · exact Ans.some (L22_24 x0 h0)
-- function 24: loop.example/g00188/impl.CommandOk
theorem L24_0 (x0 : S26) (h0 : (isIndex x0.f1) = true) (h1 : (isIndex x0.f2) = true) (h2 : (x0.f0 == (1 : Int)) = true) (h3 : (x0.f1 == (0 : Int)) = true) (h4 : (x0.f2 == (0 : Int)) = true) : Does E 24 [.agg (S26.t .far x0)] [(false, [tB ((x0.f0 == x0.f0) && (((0 : Int) == (0 : Int)) && (((0 : Int) == (0 : Int)) && ((x0.f3.toList == ByteArray.empty.toList) && ((x0.f4.toList == ByteArray.empty.toList) && ((x0.f5 == (0 : Int)) && ((x0.f6 == (0 : Int)) && ((x0.f7 == false) && true))))))))])] :=
  Does.path (fn := Try.f24) [.ret [(false, [tB true])], .ret [(false, [tB true])], .b true, .b true, .b true] [fun k => E.C k 74 [.one (tI x0.f1)] = some [(false, [tB true])], fun k => E.C k 74 [.one (tI x0.f2)] = some [(false, [tB true])], fun _ => (x0.f0 == (1 : Int)) = true, fun _ => (x0.f1 == (0 : Int)) = true, fun _ => (x0.f2 == (0 : Int)) = true] rfl rfl (fun k => by kernel_rfl) ⟨Does.to (T74 x0.f1) (by rw [h0]), Does.to (T74 x0.f2) (by rw [h1]), Ev.c h2, Ev.c h3, Ev.c h4, trivial⟩
theorem L24_1 (x0 : S26) (h0 : (isIndex x0.f1) = true) (h1 : (isIndex x0.f2) = true) (h2 : (x0.f0 == (1 : Int)) = true) (h3 : (x0.f1 == (0 : Int)) = true) (h4 : (x0.f2 == (0 : Int)) = false) : Does E 24 [.agg (S26.t .far x0)] [(false, [tB false])] :=
  Does.path (fn := Try.f24) [.ret [(false, [tB true])], .ret [(false, [tB true])], .b true, .b true, .b false] [fun k => E.C k 74 [.one (tI x0.f1)] = some [(false, [tB true])], fun k => E.C k 74 [.one (tI x0.f2)] = some [(false, [tB true])], fun _ => (x0.f0 == (1 : Int)) = true, fun _ => (x0.f1 == (0 : Int)) = true, fun _ => (x0.f2 == (0 : Int)) = false] rfl rfl (fun k => by kernel_rfl) ⟨Does.to (T74 x0.f1) (by rw [h0]), Does.to (T74 x0.f2) (by rw [h1]), Ev.c h2, Ev.c h3, Ev.c h4, trivial⟩
theorem L24_2 (x0 : S26) (h0 : (isIndex x0.f1) = true) (h1 : (isIndex x0.f2) = true) (h2 : (x0.f0 == (1 : Int)) = true) (h3 : (x0.f1 == (0 : Int)) = false) : Does E 24 [.agg (S26.t .far x0)] [(false, [tB false])] :=
  Does.path (fn := Try.f24) [.ret [(false, [tB true])], .ret [(false, [tB true])], .b true, .b false] [fun k => E.C k 74 [.one (tI x0.f1)] = some [(false, [tB true])], fun k => E.C k 74 [.one (tI x0.f2)] = some [(false, [tB true])], fun _ => (x0.f0 == (1 : Int)) = true, fun _ => (x0.f1 == (0 : Int)) = false] rfl rfl (fun k => by kernel_rfl) ⟨Does.to (T74 x0.f1) (by rw [h0]), Does.to (T74 x0.f2) (by rw [h1]), Ev.c h2, Ev.c h3, trivial⟩
theorem L24_3 (x0 : S26) (h0 : (isIndex x0.f1) = true) (h1 : (isIndex x0.f2) = true) (h2 : (x0.f0 == (1 : Int)) = false) (h3 : (x0.f0 == (2 : Int)) = true) (h4 : (decide ((x0.f3.size : Int) ≤ (600 : Int))) = true) : Does E 24 [.agg (S26.t .far x0)] [(false, [tB ((x0.f0 == x0.f0) && (((0 : Int) == (0 : Int)) && (((0 : Int) == (0 : Int)) && ((ByteArray.empty.toList == ByteArray.empty.toList) && ((x0.f4.toList == ByteArray.empty.toList) && ((x0.f5 == (0 : Int)) && ((x0.f6 == (0 : Int)) && ((x0.f7 == false) && true))))))))])] :=
  Does.path (fn := Try.f24) [.ret [(false, [tB true])], .ret [(false, [tB true])], .b false, .b true, .b true] [fun k => E.C k 74 [.one (tI x0.f1)] = some [(false, [tB true])], fun k => E.C k 74 [.one (tI x0.f2)] = some [(false, [tB true])], fun _ => (x0.f0 == (1 : Int)) = false, fun _ => (x0.f0 == (2 : Int)) = true, fun _ => (decide ((x0.f3.size : Int) ≤ (600 : Int))) = true] rfl rfl (fun k => by kernel_rfl) ⟨Does.to (T74 x0.f1) (by rw [h0]), Does.to (T74 x0.f2) (by rw [h1]), Ev.c h2, Ev.c h3, Ev.c h4, trivial⟩
theorem L24_4 (x0 : S26) (h0 : (isIndex x0.f1) = true) (h1 : (isIndex x0.f2) = true) (h2 : (x0.f0 == (1 : Int)) = false) (h3 : (x0.f0 == (2 : Int)) = true) (h4 : (decide ((x0.f3.size : Int) ≤ (600 : Int))) = false) : Does E 24 [.agg (S26.t .far x0)] [(false, [tB false])] :=
  Does.path (fn := Try.f24) [.ret [(false, [tB true])], .ret [(false, [tB true])], .b false, .b true, .b false] [fun k => E.C k 74 [.one (tI x0.f1)] = some [(false, [tB true])], fun k => E.C k 74 [.one (tI x0.f2)] = some [(false, [tB true])], fun _ => (x0.f0 == (1 : Int)) = false, fun _ => (x0.f0 == (2 : Int)) = true, fun _ => (decide ((x0.f3.size : Int) ≤ (600 : Int))) = false] rfl rfl (fun k => by kernel_rfl) ⟨Does.to (T74 x0.f1) (by rw [h0]), Does.to (T74 x0.f2) (by rw [h1]), Ev.c h2, Ev.c h3, Ev.c h4, trivial⟩
theorem L24_5 (x0 : S26) (h0 : (isIndex x0.f1) = true) (h1 : (isIndex x0.f2) = true) (h2 : (x0.f0 == (1 : Int)) = false) (h3 : (x0.f0 == (2 : Int)) = false) (h4 : (x0.f0 == (3 : Int)) = true) (h5 : x0.f3.size < 4611686018427387904) (h6 : (nameOk x0.f3) = true) : Does E 24 [.agg (S26.t .far x0)] [(false, [tB ((x0.f0 == x0.f0) && (((0 : Int) == (0 : Int)) && (((0 : Int) == (0 : Int)) && ((ByteArray.empty.toList == ByteArray.empty.toList) && ((x0.f4.toList == ByteArray.empty.toList) && ((x0.f5 == (0 : Int)) && ((x0.f6 == (0 : Int)) && ((false == false) && true))))))))])] :=
  Does.path (fn := Try.f24) [.ret [(false, [tB true])], .ret [(false, [tB true])], .b false, .b false, .b true, .ret [(false, [tB true])]] [fun k => E.C k 74 [.one (tI x0.f1)] = some [(false, [tB true])], fun k => E.C k 74 [.one (tI x0.f2)] = some [(false, [tB true])], fun _ => (x0.f0 == (1 : Int)) = false, fun _ => (x0.f0 == (2 : Int)) = false, fun _ => (x0.f0 == (3 : Int)) = true, fun k => E.C k 20 [.one (tS x0.f3)] = some [(false, [tB true])]] rfl rfl (fun k => by kernel_rfl) ⟨Does.to (T74 x0.f1) (by rw [h0]), Does.to (T74 x0.f2) (by rw [h1]), Ev.c h2, Ev.c h3, Ev.c h4, Does.to (T20 x0.f3 h5) (by rw [h6]), trivial⟩
theorem L24_6 (x0 : S26) (h0 : (isIndex x0.f1) = true) (h1 : (isIndex x0.f2) = true) (h2 : (x0.f0 == (1 : Int)) = false) (h3 : (x0.f0 == (2 : Int)) = false) (h4 : (x0.f0 == (3 : Int)) = true) (h5 : x0.f3.size < 4611686018427387904) (h6 : (nameOk x0.f3) = false) : Does E 24 [.agg (S26.t .far x0)] [(false, [tB false])] :=
  Does.path (fn := Try.f24) [.ret [(false, [tB true])], .ret [(false, [tB true])], .b false, .b false, .b true, .ret [(false, [tB false])]] [fun k => E.C k 74 [.one (tI x0.f1)] = some [(false, [tB true])], fun k => E.C k 74 [.one (tI x0.f2)] = some [(false, [tB true])], fun _ => (x0.f0 == (1 : Int)) = false, fun _ => (x0.f0 == (2 : Int)) = false, fun _ => (x0.f0 == (3 : Int)) = true, fun k => E.C k 20 [.one (tS x0.f3)] = some [(false, [tB false])]] rfl rfl (fun k => by kernel_rfl) ⟨Does.to (T74 x0.f1) (by rw [h0]), Does.to (T74 x0.f2) (by rw [h1]), Ev.c h2, Ev.c h3, Ev.c h4, Does.to (T20 x0.f3 h5) (by rw [h6]), trivial⟩
theorem L24_7 (x0 : S26) (h0 : (isIndex x0.f1) = true) (h1 : (isIndex x0.f2) = true) (h2 : (x0.f0 == (1 : Int)) = false) (h3 : (x0.f0 == (2 : Int)) = false) (h4 : (x0.f0 == (3 : Int)) = false) (h5 : (x0.f0 == (4 : Int)) = true) (h6 : (isMinute x0.f5) = true) : Does E 24 [.agg (S26.t .far x0)] [(false, [tB ((x0.f0 == x0.f0) && (((0 : Int) == (0 : Int)) && (((0 : Int) == (0 : Int)) && ((x0.f3.toList == ByteArray.empty.toList) && ((x0.f4.toList == ByteArray.empty.toList) && (((0 : Int) == (0 : Int)) && ((x0.f6 == (0 : Int)) && ((x0.f7 == false) && true))))))))])] :=
  Does.path (fn := Try.f24) [.ret [(false, [tB true])], .ret [(false, [tB true])], .b false, .b false, .b false, .b true, .ret [(false, [tB true])]] [fun k => E.C k 74 [.one (tI x0.f1)] = some [(false, [tB true])], fun k => E.C k 74 [.one (tI x0.f2)] = some [(false, [tB true])], fun _ => (x0.f0 == (1 : Int)) = false, fun _ => (x0.f0 == (2 : Int)) = false, fun _ => (x0.f0 == (3 : Int)) = false, fun _ => (x0.f0 == (4 : Int)) = true, fun k => E.C k 75 [.one (tI x0.f5)] = some [(false, [tB true])]] rfl rfl (fun k => by kernel_rfl) ⟨Does.to (T74 x0.f1) (by rw [h0]), Does.to (T74 x0.f2) (by rw [h1]), Ev.c h2, Ev.c h3, Ev.c h4, Ev.c h5, Does.to (T75 x0.f5) (by rw [h6]), trivial⟩
theorem L24_8 (x0 : S26) (h0 : (isIndex x0.f1) = true) (h1 : (isIndex x0.f2) = true) (h2 : (x0.f0 == (1 : Int)) = false) (h3 : (x0.f0 == (2 : Int)) = false) (h4 : (x0.f0 == (3 : Int)) = false) (h5 : (x0.f0 == (4 : Int)) = true) (h6 : (isMinute x0.f5) = false) : Does E 24 [.agg (S26.t .far x0)] [(false, [tB false])] :=
  Does.path (fn := Try.f24) [.ret [(false, [tB true])], .ret [(false, [tB true])], .b false, .b false, .b false, .b true, .ret [(false, [tB false])]] [fun k => E.C k 74 [.one (tI x0.f1)] = some [(false, [tB true])], fun k => E.C k 74 [.one (tI x0.f2)] = some [(false, [tB true])], fun _ => (x0.f0 == (1 : Int)) = false, fun _ => (x0.f0 == (2 : Int)) = false, fun _ => (x0.f0 == (3 : Int)) = false, fun _ => (x0.f0 == (4 : Int)) = true, fun k => E.C k 75 [.one (tI x0.f5)] = some [(false, [tB false])]] rfl rfl (fun k => by kernel_rfl) ⟨Does.to (T74 x0.f1) (by rw [h0]), Does.to (T74 x0.f2) (by rw [h1]), Ev.c h2, Ev.c h3, Ev.c h4, Ev.c h5, Does.to (T75 x0.f5) (by rw [h6]), trivial⟩
theorem L24_9 (x0 : S26) (h0 : (isIndex x0.f1) = true) (h1 : (isIndex x0.f2) = true) (h2 : (x0.f0 == (1 : Int)) = false) (h3 : (x0.f0 == (2 : Int)) = false) (h4 : (x0.f0 == (3 : Int)) = false) (h5 : (x0.f0 == (4 : Int)) = false) (h6 : (x0.f0 == (5 : Int)) = true) : Does E 24 [.agg (S26.t .far x0)] [(false, [tB ((x0.f0 == x0.f0) && (((0 : Int) == (0 : Int)) && (((0 : Int) == (0 : Int)) && ((x0.f3.toList == ByteArray.empty.toList) && ((x0.f4.toList == ByteArray.empty.toList) && ((x0.f5 == (0 : Int)) && ((x0.f6 == (0 : Int)) && ((x0.f7 == false) && true))))))))])] :=
  Does.path (fn := Try.f24) [.ret [(false, [tB true])], .ret [(false, [tB true])], .b false, .b false, .b false, .b false, .b true] [fun k => E.C k 74 [.one (tI x0.f1)] = some [(false, [tB true])], fun k => E.C k 74 [.one (tI x0.f2)] = some [(false, [tB true])], fun _ => (x0.f0 == (1 : Int)) = false, fun _ => (x0.f0 == (2 : Int)) = false, fun _ => (x0.f0 == (3 : Int)) = false, fun _ => (x0.f0 == (4 : Int)) = false, fun _ => (x0.f0 == (5 : Int)) = true] rfl rfl (fun k => by kernel_rfl) ⟨Does.to (T74 x0.f1) (by rw [h0]), Does.to (T74 x0.f2) (by rw [h1]), Ev.c h2, Ev.c h3, Ev.c h4, Ev.c h5, Ev.c h6, trivial⟩
theorem L24_10 (x0 : S26) (h0 : (isIndex x0.f1) = true) (h1 : (isIndex x0.f2) = true) (h2 : (x0.f0 == (1 : Int)) = false) (h3 : (x0.f0 == (2 : Int)) = false) (h4 : (x0.f0 == (3 : Int)) = false) (h5 : (x0.f0 == (4 : Int)) = false) (h6 : (x0.f0 == (5 : Int)) = false) (h7 : (x0.f0 == (6 : Int)) = true) (h8 : (inRange x0.f5 (0 : Int) (1000000000 : Int)) = true) : Does E 24 [.agg (S26.t .far x0)] [(false, [tB ((x0.f0 == x0.f0) && (((0 : Int) == (0 : Int)) && (((0 : Int) == (0 : Int)) && ((x0.f3.toList == ByteArray.empty.toList) && ((x0.f4.toList == ByteArray.empty.toList) && (((0 : Int) == (0 : Int)) && ((x0.f6 == (0 : Int)) && ((x0.f7 == false) && true))))))))])] :=
  Does.path (fn := Try.f24) [.ret [(false, [tB true])], .ret [(false, [tB true])], .b false, .b false, .b false, .b false, .b false, .b true, .ret [(false, [tB true])]] [fun k => E.C k 74 [.one (tI x0.f1)] = some [(false, [tB true])], fun k => E.C k 74 [.one (tI x0.f2)] = some [(false, [tB true])], fun _ => (x0.f0 == (1 : Int)) = false, fun _ => (x0.f0 == (2 : Int)) = false, fun _ => (x0.f0 == (3 : Int)) = false, fun _ => (x0.f0 == (4 : Int)) = false, fun _ => (x0.f0 == (5 : Int)) = false, fun _ => (x0.f0 == (6 : Int)) = true, fun k => E.C k 72 [.one (tI x0.f5), .one (tI (0 : Int)), .one (tI (1000000000 : Int))] = some [(false, [tB true])]] rfl rfl (fun k => by kernel_rfl) ⟨Does.to (T74 x0.f1) (by rw [h0]), Does.to (T74 x0.f2) (by rw [h1]), Ev.c h2, Ev.c h3, Ev.c h4, Ev.c h5, Ev.c h6, Ev.c h7, Does.to (T72 x0.f5 (0 : Int) (1000000000 : Int)) (by rw [h8]), trivial⟩
theorem L24_11 (x0 : S26) (h0 : (isIndex x0.f1) = true) (h1 : (isIndex x0.f2) = true) (h2 : (x0.f0 == (1 : Int)) = false) (h3 : (x0.f0 == (2 : Int)) = false) (h4 : (x0.f0 == (3 : Int)) = false) (h5 : (x0.f0 == (4 : Int)) = false) (h6 : (x0.f0 == (5 : Int)) = false) (h7 : (x0.f0 == (6 : Int)) = true) (h8 : (inRange x0.f5 (0 : Int) (1000000000 : Int)) = false) : Does E 24 [.agg (S26.t .far x0)] [(false, [tB false])] :=
  Does.path (fn := Try.f24) [.ret [(false, [tB true])], .ret [(false, [tB true])], .b false, .b false, .b false, .b false, .b false, .b true, .ret [(false, [tB false])]] [fun k => E.C k 74 [.one (tI x0.f1)] = some [(false, [tB true])], fun k => E.C k 74 [.one (tI x0.f2)] = some [(false, [tB true])], fun _ => (x0.f0 == (1 : Int)) = false, fun _ => (x0.f0 == (2 : Int)) = false, fun _ => (x0.f0 == (3 : Int)) = false, fun _ => (x0.f0 == (4 : Int)) = false, fun _ => (x0.f0 == (5 : Int)) = false, fun _ => (x0.f0 == (6 : Int)) = true, fun k => E.C k 72 [.one (tI x0.f5), .one (tI (0 : Int)), .one (tI (1000000000 : Int))] = some [(false, [tB false])]] rfl rfl (fun k => by kernel_rfl) ⟨Does.to (T74 x0.f1) (by rw [h0]), Does.to (T74 x0.f2) (by rw [h1]), Ev.c h2, Ev.c h3, Ev.c h4, Ev.c h5, Ev.c h6, Ev.c h7, Does.to (T72 x0.f5 (0 : Int) (1000000000 : Int)) (by rw [h8]), trivial⟩
theorem L24_12 (x0 : S26) (h0 : (isIndex x0.f1) = true) (h1 : (isIndex x0.f2) = true) (h2 : (x0.f0 == (1 : Int)) = false) (h3 : (x0.f0 == (2 : Int)) = false) (h4 : (x0.f0 == (3 : Int)) = false) (h5 : (x0.f0 == (4 : Int)) = false) (h6 : (x0.f0 == (5 : Int)) = false) (h7 : (x0.f0 == (6 : Int)) = false) (h8 : (x0.f0 == (7 : Int)) = true) (h9 : (inRange x0.f5 (0 : Int) (1000000000 : Int)) = true) : Does E 24 [.agg (S26.t .far x0)] [(false, [tB ((x0.f0 == x0.f0) && (((0 : Int) == (0 : Int)) && (((0 : Int) == (0 : Int)) && ((x0.f3.toList == ByteArray.empty.toList) && ((x0.f4.toList == ByteArray.empty.toList) && (((0 : Int) == (0 : Int)) && ((x0.f6 == (0 : Int)) && ((false == false) && true))))))))])] :=
  Does.path (fn := Try.f24) [.ret [(false, [tB true])], .ret [(false, [tB true])], .b false, .b false, .b false, .b false, .b false, .b false, .b true, .ret [(false, [tB true])]] [fun k => E.C k 74 [.one (tI x0.f1)] = some [(false, [tB true])], fun k => E.C k 74 [.one (tI x0.f2)] = some [(false, [tB true])], fun _ => (x0.f0 == (1 : Int)) = false, fun _ => (x0.f0 == (2 : Int)) = false, fun _ => (x0.f0 == (3 : Int)) = false, fun _ => (x0.f0 == (4 : Int)) = false, fun _ => (x0.f0 == (5 : Int)) = false, fun _ => (x0.f0 == (6 : Int)) = false, fun _ => (x0.f0 == (7 : Int)) = true, fun k => E.C k 72 [.one (tI x0.f5), .one (tI (0 : Int)), .one (tI (1000000000 : Int))] = some [(false, [tB true])]] rfl rfl (fun k => by kernel_rfl) ⟨Does.to (T74 x0.f1) (by rw [h0]), Does.to (T74 x0.f2) (by rw [h1]), Ev.c h2, Ev.c h3, Ev.c h4, Ev.c h5, Ev.c h6, Ev.c h7, Ev.c h8, Does.to (T72 x0.f5 (0 : Int) (1000000000 : Int)) (by rw [h9]), trivial⟩
theorem L24_13 (x0 : S26) (h0 : (isIndex x0.f1) = true) (h1 : (isIndex x0.f2) = true) (h2 : (x0.f0 == (1 : Int)) = false) (h3 : (x0.f0 == (2 : Int)) = false) (h4 : (x0.f0 == (3 : Int)) = false) (h5 : (x0.f0 == (4 : Int)) = false) (h6 : (x0.f0 == (5 : Int)) = false) (h7 : (x0.f0 == (6 : Int)) = false) (h8 : (x0.f0 == (7 : Int)) = true) (h9 : (inRange x0.f5 (0 : Int) (1000000000 : Int)) = false) : Does E 24 [.agg (S26.t .far x0)] [(false, [tB false])] :=
  Does.path (fn := Try.f24) [.ret [(false, [tB true])], .ret [(false, [tB true])], .b false, .b false, .b false, .b false, .b false, .b false, .b true, .ret [(false, [tB false])]] [fun k => E.C k 74 [.one (tI x0.f1)] = some [(false, [tB true])], fun k => E.C k 74 [.one (tI x0.f2)] = some [(false, [tB true])], fun _ => (x0.f0 == (1 : Int)) = false, fun _ => (x0.f0 == (2 : Int)) = false, fun _ => (x0.f0 == (3 : Int)) = false, fun _ => (x0.f0 == (4 : Int)) = false, fun _ => (x0.f0 == (5 : Int)) = false, fun _ => (x0.f0 == (6 : Int)) = false, fun _ => (x0.f0 == (7 : Int)) = true, fun k => E.C k 72 [.one (tI x0.f5), .one (tI (0 : Int)), .one (tI (1000000000 : Int))] = some [(false, [tB false])]] rfl rfl (fun k => by kernel_rfl) ⟨Does.to (T74 x0.f1) (by rw [h0]), Does.to (T74 x0.f2) (by rw [h1]), Ev.c h2, Ev.c h3, Ev.c h4, Ev.c h5, Ev.c h6, Ev.c h7, Ev.c h8, Does.to (T72 x0.f5 (0 : Int) (1000000000 : Int)) (by rw [h9]), trivial⟩
theorem L24_14 (x0 : S26) (h0 : (isIndex x0.f1) = true) (h1 : (isIndex x0.f2) = true) (h2 : (x0.f0 == (1 : Int)) = false) (h3 : (x0.f0 == (2 : Int)) = false) (h4 : (x0.f0 == (3 : Int)) = false) (h5 : (x0.f0 == (4 : Int)) = false) (h6 : (x0.f0 == (5 : Int)) = false) (h7 : (x0.f0 == (6 : Int)) = false) (h8 : (x0.f0 == (7 : Int)) = false) (h9 : (x0.f0 == (8 : Int)) = true) (h10 : x0.f3.size < 4611686018427387904) (h11 : (nameOk x0.f3) = true) (h12 : (isMinute x0.f5) = true) (h13 : (isMinute x0.f6) = true) : Does E 24 [.agg (S26.t .far x0)] [(false, [tB ((x0.f0 == x0.f0) && (((0 : Int) == (0 : Int)) && (((0 : Int) == (0 : Int)) && ((ByteArray.empty.toList == ByteArray.empty.toList) && ((x0.f4.toList == ByteArray.empty.toList) && (((0 : Int) == (0 : Int)) && (((0 : Int) == (0 : Int)) && ((x0.f7 == false) && true))))))))])] :=
  Does.path (fn := Try.f24) [.ret [(false, [tB true])], .ret [(false, [tB true])], .b false, .b false, .b false, .b false, .b false, .b false, .b false, .b true, .ret [(false, [tB true])], .ret [(false, [tB true])], .ret [(false, [tB true])]] [fun k => E.C k 74 [.one (tI x0.f1)] = some [(false, [tB true])], fun k => E.C k 74 [.one (tI x0.f2)] = some [(false, [tB true])], fun _ => (x0.f0 == (1 : Int)) = false, fun _ => (x0.f0 == (2 : Int)) = false, fun _ => (x0.f0 == (3 : Int)) = false, fun _ => (x0.f0 == (4 : Int)) = false, fun _ => (x0.f0 == (5 : Int)) = false, fun _ => (x0.f0 == (6 : Int)) = false, fun _ => (x0.f0 == (7 : Int)) = false, fun _ => (x0.f0 == (8 : Int)) = true, fun k => E.C k 20 [.one (tS x0.f3)] = some [(false, [tB true])], fun k => E.C k 75 [.one (tI x0.f5)] = some [(false, [tB true])], fun k => E.C k 75 [.one (tI x0.f6)] = some [(false, [tB true])]] rfl rfl (fun k => by kernel_rfl) ⟨Does.to (T74 x0.f1) (by rw [h0]), Does.to (T74 x0.f2) (by rw [h1]), Ev.c h2, Ev.c h3, Ev.c h4, Ev.c h5, Ev.c h6, Ev.c h7, Ev.c h8, Ev.c h9, Does.to (T20 x0.f3 h10) (by rw [h11]), Does.to (T75 x0.f5) (by rw [h12]), Does.to (T75 x0.f6) (by rw [h13]), trivial⟩
theorem L24_15 (x0 : S26) (h0 : (isIndex x0.f1) = true) (h1 : (isIndex x0.f2) = true) (h2 : (x0.f0 == (1 : Int)) = false) (h3 : (x0.f0 == (2 : Int)) = false) (h4 : (x0.f0 == (3 : Int)) = false) (h5 : (x0.f0 == (4 : Int)) = false) (h6 : (x0.f0 == (5 : Int)) = false) (h7 : (x0.f0 == (6 : Int)) = false) (h8 : (x0.f0 == (7 : Int)) = false) (h9 : (x0.f0 == (8 : Int)) = true) (h10 : x0.f3.size < 4611686018427387904) (h11 : (nameOk x0.f3) = true) (h12 : (isMinute x0.f5) = true) (h13 : (isMinute x0.f6) = false) : Does E 24 [.agg (S26.t .far x0)] [(false, [tB false])] :=
  Does.path (fn := Try.f24) [.ret [(false, [tB true])], .ret [(false, [tB true])], .b false, .b false, .b false, .b false, .b false, .b false, .b false, .b true, .ret [(false, [tB true])], .ret [(false, [tB true])], .ret [(false, [tB false])]] [fun k => E.C k 74 [.one (tI x0.f1)] = some [(false, [tB true])], fun k => E.C k 74 [.one (tI x0.f2)] = some [(false, [tB true])], fun _ => (x0.f0 == (1 : Int)) = false, fun _ => (x0.f0 == (2 : Int)) = false, fun _ => (x0.f0 == (3 : Int)) = false, fun _ => (x0.f0 == (4 : Int)) = false, fun _ => (x0.f0 == (5 : Int)) = false, fun _ => (x0.f0 == (6 : Int)) = false, fun _ => (x0.f0 == (7 : Int)) = false, fun _ => (x0.f0 == (8 : Int)) = true, fun k => E.C k 20 [.one (tS x0.f3)] = some [(false, [tB true])], fun k => E.C k 75 [.one (tI x0.f5)] = some [(false, [tB true])], fun k => E.C k 75 [.one (tI x0.f6)] = some [(false, [tB false])]] rfl rfl (fun k => by kernel_rfl) ⟨Does.to (T74 x0.f1) (by rw [h0]), Does.to (T74 x0.f2) (by rw [h1]), Ev.c h2, Ev.c h3, Ev.c h4, Ev.c h5, Ev.c h6, Ev.c h7, Ev.c h8, Ev.c h9, Does.to (T20 x0.f3 h10) (by rw [h11]), Does.to (T75 x0.f5) (by rw [h12]), Does.to (T75 x0.f6) (by rw [h13]), trivial⟩
theorem L24_16 (x0 : S26) (h0 : (isIndex x0.f1) = true) (h1 : (isIndex x0.f2) = true) (h2 : (x0.f0 == (1 : Int)) = false) (h3 : (x0.f0 == (2 : Int)) = false) (h4 : (x0.f0 == (3 : Int)) = false) (h5 : (x0.f0 == (4 : Int)) = false) (h6 : (x0.f0 == (5 : Int)) = false) (h7 : (x0.f0 == (6 : Int)) = false) (h8 : (x0.f0 == (7 : Int)) = false) (h9 : (x0.f0 == (8 : Int)) = true) (h10 : x0.f3.size < 4611686018427387904) (h11 : (nameOk x0.f3) = true) (h12 : (isMinute x0.f5) = false) : Does E 24 [.agg (S26.t .far x0)] [(false, [tB false])] :=
  Does.path (fn := Try.f24) [.ret [(false, [tB true])], .ret [(false, [tB true])], .b false, .b false, .b false, .b false, .b false, .b false, .b false, .b true, .ret [(false, [tB true])], .ret [(false, [tB false])]] [fun k => E.C k 74 [.one (tI x0.f1)] = some [(false, [tB true])], fun k => E.C k 74 [.one (tI x0.f2)] = some [(false, [tB true])], fun _ => (x0.f0 == (1 : Int)) = false, fun _ => (x0.f0 == (2 : Int)) = false, fun _ => (x0.f0 == (3 : Int)) = false, fun _ => (x0.f0 == (4 : Int)) = false, fun _ => (x0.f0 == (5 : Int)) = false, fun _ => (x0.f0 == (6 : Int)) = false, fun _ => (x0.f0 == (7 : Int)) = false, fun _ => (x0.f0 == (8 : Int)) = true, fun k => E.C k 20 [.one (tS x0.f3)] = some [(false, [tB true])], fun k => E.C k 75 [.one (tI x0.f5)] = some [(false, [tB false])]] rfl rfl (fun k => by kernel_rfl) ⟨Does.to (T74 x0.f1) (by rw [h0]), Does.to (T74 x0.f2) (by rw [h1]), Ev.c h2, Ev.c h3, Ev.c h4, Ev.c h5, Ev.c h6, Ev.c h7, Ev.c h8, Ev.c h9, Does.to (T20 x0.f3 h10) (by rw [h11]), Does.to (T75 x0.f5) (by rw [h12]), trivial⟩
theorem L24_17 (x0 : S26) (h0 : (isIndex x0.f1) = true) (h1 : (isIndex x0.f2) = true) (h2 : (x0.f0 == (1 : Int)) = false) (h3 : (x0.f0 == (2 : Int)) = false) (h4 : (x0.f0 == (3 : Int)) = false) (h5 : (x0.f0 == (4 : Int)) = false) (h6 : (x0.f0 == (5 : Int)) = false) (h7 : (x0.f0 == (6 : Int)) = false) (h8 : (x0.f0 == (7 : Int)) = false) (h9 : (x0.f0 == (8 : Int)) = true) (h10 : x0.f3.size < 4611686018427387904) (h11 : (nameOk x0.f3) = false) : Does E 24 [.agg (S26.t .far x0)] [(false, [tB false])] :=
  Does.path (fn := Try.f24) [.ret [(false, [tB true])], .ret [(false, [tB true])], .b false, .b false, .b false, .b false, .b false, .b false, .b false, .b true, .ret [(false, [tB false])]] [fun k => E.C k 74 [.one (tI x0.f1)] = some [(false, [tB true])], fun k => E.C k 74 [.one (tI x0.f2)] = some [(false, [tB true])], fun _ => (x0.f0 == (1 : Int)) = false, fun _ => (x0.f0 == (2 : Int)) = false, fun _ => (x0.f0 == (3 : Int)) = false, fun _ => (x0.f0 == (4 : Int)) = false, fun _ => (x0.f0 == (5 : Int)) = false, fun _ => (x0.f0 == (6 : Int)) = false, fun _ => (x0.f0 == (7 : Int)) = false, fun _ => (x0.f0 == (8 : Int)) = true, fun k => E.C k 20 [.one (tS x0.f3)] = some [(false, [tB false])]] rfl rfl (fun k => by kernel_rfl) ⟨Does.to (T74 x0.f1) (by rw [h0]), Does.to (T74 x0.f2) (by rw [h1]), Ev.c h2, Ev.c h3, Ev.c h4, Ev.c h5, Ev.c h6, Ev.c h7, Ev.c h8, Ev.c h9, Does.to (T20 x0.f3 h10) (by rw [h11]), trivial⟩
theorem L24_18 (x0 : S26) (h0 : (isIndex x0.f1) = true) (h1 : (isIndex x0.f2) = true) (h2 : (x0.f0 == (1 : Int)) = false) (h3 : (x0.f0 == (2 : Int)) = false) (h4 : (x0.f0 == (3 : Int)) = false) (h5 : (x0.f0 == (4 : Int)) = false) (h6 : (x0.f0 == (5 : Int)) = false) (h7 : (x0.f0 == (6 : Int)) = false) (h8 : (x0.f0 == (7 : Int)) = false) (h9 : (x0.f0 == (8 : Int)) = false) (h10 : (x0.f0 == (9 : Int)) = true) (h11 : x0.f3.size < 4611686018427387904) (h12 : (nameOk x0.f3) = true) (h13 : (isMinute x0.f5) = true) (h14 : x0.f4.size < 4611686018427387904) (h15 : (nameOk x0.f4) = true) : Does E 24 [.agg (S26.t .far x0)] [(false, [tB ((x0.f0 == x0.f0) && (((0 : Int) == (0 : Int)) && (((0 : Int) == (0 : Int)) && ((ByteArray.empty.toList == ByteArray.empty.toList) && ((ByteArray.empty.toList == ByteArray.empty.toList) && (((0 : Int) == (0 : Int)) && ((x0.f6 == (0 : Int)) && ((x0.f7 == false) && true))))))))])] :=
  Does.path (fn := Try.f24) [.ret [(false, [tB true])], .ret [(false, [tB true])], .b false, .b false, .b false, .b false, .b false, .b false, .b false, .b false, .b true, .ret [(false, [tB true])], .ret [(false, [tB true])], .ret [(false, [tB true])]] [fun k => E.C k 74 [.one (tI x0.f1)] = some [(false, [tB true])], fun k => E.C k 74 [.one (tI x0.f2)] = some [(false, [tB true])], fun _ => (x0.f0 == (1 : Int)) = false, fun _ => (x0.f0 == (2 : Int)) = false, fun _ => (x0.f0 == (3 : Int)) = false, fun _ => (x0.f0 == (4 : Int)) = false, fun _ => (x0.f0 == (5 : Int)) = false, fun _ => (x0.f0 == (6 : Int)) = false, fun _ => (x0.f0 == (7 : Int)) = false, fun _ => (x0.f0 == (8 : Int)) = false, fun _ => (x0.f0 == (9 : Int)) = true, fun k => E.C k 20 [.one (tS x0.f3)] = some [(false, [tB true])], fun k => E.C k 75 [.one (tI x0.f5)] = some [(false, [tB true])], fun k => E.C k 20 [.one (tS x0.f4)] = some [(false, [tB true])]] rfl rfl (fun k => by kernel_rfl) ⟨Does.to (T74 x0.f1) (by rw [h0]), Does.to (T74 x0.f2) (by rw [h1]), Ev.c h2, Ev.c h3, Ev.c h4, Ev.c h5, Ev.c h6, Ev.c h7, Ev.c h8, Ev.c h9, Ev.c h10, Does.to (T20 x0.f3 h11) (by rw [h12]), Does.to (T75 x0.f5) (by rw [h13]), Does.to (T20 x0.f4 h14) (by rw [h15]), trivial⟩
theorem L24_19 (x0 : S26) (h0 : (isIndex x0.f1) = true) (h1 : (isIndex x0.f2) = true) (h2 : (x0.f0 == (1 : Int)) = false) (h3 : (x0.f0 == (2 : Int)) = false) (h4 : (x0.f0 == (3 : Int)) = false) (h5 : (x0.f0 == (4 : Int)) = false) (h6 : (x0.f0 == (5 : Int)) = false) (h7 : (x0.f0 == (6 : Int)) = false) (h8 : (x0.f0 == (7 : Int)) = false) (h9 : (x0.f0 == (8 : Int)) = false) (h10 : (x0.f0 == (9 : Int)) = true) (h11 : x0.f3.size < 4611686018427387904) (h12 : (nameOk x0.f3) = true) (h13 : (isMinute x0.f5) = true) (h14 : x0.f4.size < 4611686018427387904) (h15 : (nameOk x0.f4) = false) : Does E 24 [.agg (S26.t .far x0)] [(false, [tB false])] :=
  Does.path (fn := Try.f24) [.ret [(false, [tB true])], .ret [(false, [tB true])], .b false, .b false, .b false, .b false, .b false, .b false, .b false, .b false, .b true, .ret [(false, [tB true])], .ret [(false, [tB true])], .ret [(false, [tB false])]] [fun k => E.C k 74 [.one (tI x0.f1)] = some [(false, [tB true])], fun k => E.C k 74 [.one (tI x0.f2)] = some [(false, [tB true])], fun _ => (x0.f0 == (1 : Int)) = false, fun _ => (x0.f0 == (2 : Int)) = false, fun _ => (x0.f0 == (3 : Int)) = false, fun _ => (x0.f0 == (4 : Int)) = false, fun _ => (x0.f0 == (5 : Int)) = false, fun _ => (x0.f0 == (6 : Int)) = false, fun _ => (x0.f0 == (7 : Int)) = false, fun _ => (x0.f0 == (8 : Int)) = false, fun _ => (x0.f0 == (9 : Int)) = true, fun k => E.C k 20 [.one (tS x0.f3)] = some [(false, [tB true])], fun k => E.C k 75 [.one (tI x0.f5)] = some [(false, [tB true])], fun k => E.C k 20 [.one (tS x0.f4)] = some [(false, [tB false])]] rfl rfl (fun k => by kernel_rfl) ⟨Does.to (T74 x0.f1) (by rw [h0]), Does.to (T74 x0.f2) (by rw [h1]), Ev.c h2, Ev.c h3, Ev.c h4, Ev.c h5, Ev.c h6, Ev.c h7, Ev.c h8, Ev.c h9, Ev.c h10, Does.to (T20 x0.f3 h11) (by rw [h12]), Does.to (T75 x0.f5) (by rw [h13]), Does.to (T20 x0.f4 h14) (by rw [h15]), trivial⟩
theorem L24_20 (x0 : S26) (h0 : (isIndex x0.f1) = true) (h1 : (isIndex x0.f2) = true) (h2 : (x0.f0 == (1 : Int)) = false) (h3 : (x0.f0 == (2 : Int)) = false) (h4 : (x0.f0 == (3 : Int)) = false) (h5 : (x0.f0 == (4 : Int)) = false) (h6 : (x0.f0 == (5 : Int)) = false) (h7 : (x0.f0 == (6 : Int)) = false) (h8 : (x0.f0 == (7 : Int)) = false) (h9 : (x0.f0 == (8 : Int)) = false) (h10 : (x0.f0 == (9 : Int)) = true) (h11 : x0.f3.size < 4611686018427387904) (h12 : (nameOk x0.f3) = true) (h13 : (isMinute x0.f5) = false) : Does E 24 [.agg (S26.t .far x0)] [(false, [tB false])] :=
  Does.path (fn := Try.f24) [.ret [(false, [tB true])], .ret [(false, [tB true])], .b false, .b false, .b false, .b false, .b false, .b false, .b false, .b false, .b true, .ret [(false, [tB true])], .ret [(false, [tB false])]] [fun k => E.C k 74 [.one (tI x0.f1)] = some [(false, [tB true])], fun k => E.C k 74 [.one (tI x0.f2)] = some [(false, [tB true])], fun _ => (x0.f0 == (1 : Int)) = false, fun _ => (x0.f0 == (2 : Int)) = false, fun _ => (x0.f0 == (3 : Int)) = false, fun _ => (x0.f0 == (4 : Int)) = false, fun _ => (x0.f0 == (5 : Int)) = false, fun _ => (x0.f0 == (6 : Int)) = false, fun _ => (x0.f0 == (7 : Int)) = false, fun _ => (x0.f0 == (8 : Int)) = false, fun _ => (x0.f0 == (9 : Int)) = true, fun k => E.C k 20 [.one (tS x0.f3)] = some [(false, [tB true])], fun k => E.C k 75 [.one (tI x0.f5)] = some [(false, [tB false])]] rfl rfl (fun k => by kernel_rfl) ⟨Does.to (T74 x0.f1) (by rw [h0]), Does.to (T74 x0.f2) (by rw [h1]), Ev.c h2, Ev.c h3, Ev.c h4, Ev.c h5, Ev.c h6, Ev.c h7, Ev.c h8, Ev.c h9, Ev.c h10, Does.to (T20 x0.f3 h11) (by rw [h12]), Does.to (T75 x0.f5) (by rw [h13]), trivial⟩
theorem L24_21 (x0 : S26) (h0 : (isIndex x0.f1) = true) (h1 : (isIndex x0.f2) = true) (h2 : (x0.f0 == (1 : Int)) = false) (h3 : (x0.f0 == (2 : Int)) = false) (h4 : (x0.f0 == (3 : Int)) = false) (h5 : (x0.f0 == (4 : Int)) = false) (h6 : (x0.f0 == (5 : Int)) = false) (h7 : (x0.f0 == (6 : Int)) = false) (h8 : (x0.f0 == (7 : Int)) = false) (h9 : (x0.f0 == (8 : Int)) = false) (h10 : (x0.f0 == (9 : Int)) = true) (h11 : x0.f3.size < 4611686018427387904) (h12 : (nameOk x0.f3) = false) : Does E 24 [.agg (S26.t .far x0)] [(false, [tB false])] :=
  Does.path (fn := Try.f24) [.ret [(false, [tB true])], .ret [(false, [tB true])], .b false, .b false, .b false, .b false, .b false, .b false, .b false, .b false, .b true, .ret [(false, [tB false])]] [fun k => E.C k 74 [.one (tI x0.f1)] = some [(false, [tB true])], fun k => E.C k 74 [.one (tI x0.f2)] = some [(false, [tB true])], fun _ => (x0.f0 == (1 : Int)) = false, fun _ => (x0.f0 == (2 : Int)) = false, fun _ => (x0.f0 == (3 : Int)) = false, fun _ => (x0.f0 == (4 : Int)) = false, fun _ => (x0.f0 == (5 : Int)) = false, fun _ => (x0.f0 == (6 : Int)) = false, fun _ => (x0.f0 == (7 : Int)) = false, fun _ => (x0.f0 == (8 : Int)) = false, fun _ => (x0.f0 == (9 : Int)) = true, fun k => E.C k 20 [.one (tS x0.f3)] = some [(false, [tB false])]] rfl rfl (fun k => by kernel_rfl) ⟨Does.to (T74 x0.f1) (by rw [h0]), Does.to (T74 x0.f2) (by rw [h1]), Ev.c h2, Ev.c h3, Ev.c h4, Ev.c h5, Ev.c h6, Ev.c h7, Ev.c h8, Ev.c h9, Ev.c h10, Does.to (T20 x0.f3 h11) (by rw [h12]), trivial⟩
theorem L24_22 (x0 : S26) (h0 : (isIndex x0.f1) = true) (h1 : (isIndex x0.f2) = true) (h2 : (x0.f0 == (1 : Int)) = false) (h3 : (x0.f0 == (2 : Int)) = false) (h4 : (x0.f0 == (3 : Int)) = false) (h5 : (x0.f0 == (4 : Int)) = false) (h6 : (x0.f0 == (5 : Int)) = false) (h7 : (x0.f0 == (6 : Int)) = false) (h8 : (x0.f0 == (7 : Int)) = false) (h9 : (x0.f0 == (8 : Int)) = false) (h10 : (x0.f0 == (9 : Int)) = false) : Does E 24 [.agg (S26.t .far x0)] [(false, [tB false])] :=
  Does.path (fn := Try.f24) [.ret [(false, [tB true])], .ret [(false, [tB true])], .b false, .b false, .b false, .b false, .b false, .b false, .b false, .b false, .b false] [fun k => E.C k 74 [.one (tI x0.f1)] = some [(false, [tB true])], fun k => E.C k 74 [.one (tI x0.f2)] = some [(false, [tB true])], fun _ => (x0.f0 == (1 : Int)) = false, fun _ => (x0.f0 == (2 : Int)) = false, fun _ => (x0.f0 == (3 : Int)) = false, fun _ => (x0.f0 == (4 : Int)) = false, fun _ => (x0.f0 == (5 : Int)) = false, fun _ => (x0.f0 == (6 : Int)) = false, fun _ => (x0.f0 == (7 : Int)) = false, fun _ => (x0.f0 == (8 : Int)) = false, fun _ => (x0.f0 == (9 : Int)) = false] rfl rfl (fun k => by kernel_rfl) ⟨Does.to (T74 x0.f1) (by rw [h0]), Does.to (T74 x0.f2) (by rw [h1]), Ev.c h2, Ev.c h3, Ev.c h4, Ev.c h5, Ev.c h6, Ev.c h7, Ev.c h8, Ev.c h9, Ev.c h10, trivial⟩
theorem L24_23 (x0 : S26) (h0 : (isIndex x0.f1) = true) (h1 : (isIndex x0.f2) = false) : Does E 24 [.agg (S26.t .far x0)] [(false, [tB false])] :=
  Does.path (fn := Try.f24) [.ret [(false, [tB true])], .ret [(false, [tB false])]] [fun k => E.C k 74 [.one (tI x0.f1)] = some [(false, [tB true])], fun k => E.C k 74 [.one (tI x0.f2)] = some [(false, [tB false])]] rfl rfl (fun k => by kernel_rfl) ⟨Does.to (T74 x0.f1) (by rw [h0]), Does.to (T74 x0.f2) (by rw [h1]), trivial⟩
theorem L24_24 (x0 : S26) (h0 : (isIndex x0.f1) = false) : Does E 24 [.agg (S26.t .far x0)] [(false, [tB false])] :=
  Does.path (fn := Try.f24) [.ret [(false, [tB false])]] [fun k => E.C k 74 [.one (tI x0.f1)] = some [(false, [tB false])]] rfl rfl (fun k => by kernel_rfl) ⟨Does.to (T74 x0.f1) (by rw [h0]), trivial⟩
def sem24 (x0 : S26) : Option (Bool) :=
    cond (isIndex x0.f1)
      (cond (isIndex x0.f2)
        (cond (x0.f0 == (1 : Int))
          (cond (x0.f1 == (0 : Int))
            (cond (x0.f2 == (0 : Int))
              (some ((x0.f0 == x0.f0) && (((0 : Int) == (0 : Int)) && (((0 : Int) == (0 : Int)) && ((x0.f3.toList == ByteArray.empty.toList) && ((x0.f4.toList == ByteArray.empty.toList) && ((x0.f5 == (0 : Int)) && ((x0.f6 == (0 : Int)) && ((x0.f7 == false) && true)))))))))
              (some (false)))
            (some (false)))
          (cond (x0.f0 == (2 : Int))
            (cond (decide ((x0.f3.size : Int) ≤ (600 : Int)))
              (some ((x0.f0 == x0.f0) && (((0 : Int) == (0 : Int)) && (((0 : Int) == (0 : Int)) && ((ByteArray.empty.toList == ByteArray.empty.toList) && ((x0.f4.toList == ByteArray.empty.toList) && ((x0.f5 == (0 : Int)) && ((x0.f6 == (0 : Int)) && ((x0.f7 == false) && true)))))))))
              (some (false)))
            (cond (x0.f0 == (3 : Int))
              (if x0.f3.size < 4611686018427387904 then cond (nameOk x0.f3)
                (some ((x0.f0 == x0.f0) && (((0 : Int) == (0 : Int)) && (((0 : Int) == (0 : Int)) && ((ByteArray.empty.toList == ByteArray.empty.toList) && ((x0.f4.toList == ByteArray.empty.toList) && ((x0.f5 == (0 : Int)) && ((x0.f6 == (0 : Int)) && ((false == false) && true)))))))))
                (some (false)) else none)
              (cond (x0.f0 == (4 : Int))
                (cond (isMinute x0.f5)
                  (some ((x0.f0 == x0.f0) && (((0 : Int) == (0 : Int)) && (((0 : Int) == (0 : Int)) && ((x0.f3.toList == ByteArray.empty.toList) && ((x0.f4.toList == ByteArray.empty.toList) && (((0 : Int) == (0 : Int)) && ((x0.f6 == (0 : Int)) && ((x0.f7 == false) && true)))))))))
                  (some (false)))
                (cond (x0.f0 == (5 : Int))
                  (some ((x0.f0 == x0.f0) && (((0 : Int) == (0 : Int)) && (((0 : Int) == (0 : Int)) && ((x0.f3.toList == ByteArray.empty.toList) && ((x0.f4.toList == ByteArray.empty.toList) && ((x0.f5 == (0 : Int)) && ((x0.f6 == (0 : Int)) && ((x0.f7 == false) && true)))))))))
                  (cond (x0.f0 == (6 : Int))
                    (cond (inRange x0.f5 (0 : Int) (1000000000 : Int))
                      (some ((x0.f0 == x0.f0) && (((0 : Int) == (0 : Int)) && (((0 : Int) == (0 : Int)) && ((x0.f3.toList == ByteArray.empty.toList) && ((x0.f4.toList == ByteArray.empty.toList) && (((0 : Int) == (0 : Int)) && ((x0.f6 == (0 : Int)) && ((x0.f7 == false) && true)))))))))
                      (some (false)))
                    (cond (x0.f0 == (7 : Int))
                      (cond (inRange x0.f5 (0 : Int) (1000000000 : Int))
                        (some ((x0.f0 == x0.f0) && (((0 : Int) == (0 : Int)) && (((0 : Int) == (0 : Int)) && ((x0.f3.toList == ByteArray.empty.toList) && ((x0.f4.toList == ByteArray.empty.toList) && (((0 : Int) == (0 : Int)) && ((x0.f6 == (0 : Int)) && ((false == false) && true)))))))))
                        (some (false)))
                      (cond (x0.f0 == (8 : Int))
                        (if x0.f3.size < 4611686018427387904 then cond (nameOk x0.f3)
                          (cond (isMinute x0.f5)
                            (cond (isMinute x0.f6)
                              (some ((x0.f0 == x0.f0) && (((0 : Int) == (0 : Int)) && (((0 : Int) == (0 : Int)) && ((ByteArray.empty.toList == ByteArray.empty.toList) && ((x0.f4.toList == ByteArray.empty.toList) && (((0 : Int) == (0 : Int)) && (((0 : Int) == (0 : Int)) && ((x0.f7 == false) && true)))))))))
                              (some (false)))
                            (some (false)))
                          (some (false)) else none)
                        (cond (x0.f0 == (9 : Int))
                          (if x0.f3.size < 4611686018427387904 then cond (nameOk x0.f3)
                            (cond (isMinute x0.f5)
                              (if x0.f4.size < 4611686018427387904 then cond (nameOk x0.f4)
                                (some ((x0.f0 == x0.f0) && (((0 : Int) == (0 : Int)) && (((0 : Int) == (0 : Int)) && ((ByteArray.empty.toList == ByteArray.empty.toList) && ((ByteArray.empty.toList == ByteArray.empty.toList) && (((0 : Int) == (0 : Int)) && ((x0.f6 == (0 : Int)) && ((x0.f7 == false) && true)))))))))
                                (some (false)) else none)
                              (some (false)))
                            (some (false)) else none)
                          (some (false)))))))))))
        (some (false)))
      (some (false))
theorem D24 (x0 : S26) : Ans (sem24 x0) (fun r => Does E 24 [.agg (S26.t .far x0)] [(false, [tB r])]) := by
  unfold sem24
  refine Ans.ite (fun h0 => ?_) (fun h0 => ?_)
  · refine Ans.ite (fun h1 => ?_) (fun h1 => ?_)
    · refine Ans.ite (fun h2 => ?_) (fun h2 => ?_)
      · refine Ans.ite (fun h3 => ?_) (fun h3 => ?_)
        · refine Ans.ite (fun h4 => ?_) (fun h4 => ?_)
          · exact Ans.some (L24_0 x0 h0 h1 h2 h3 h4)
          · exact Ans.some (L24_1 x0 h0 h1 h2 h3 h4)
        · exact Ans.some (L24_2 x0 h0 h1 h2 h3)
      · refine Ans.ite (fun h3 => ?_) (fun h3 => ?_)
        · refine Ans.ite (fun h4 => ?_) (fun h4 => ?_)
          · exact Ans.some (L24_3 x0 h0 h1 h2 h3 h4)
          · exact Ans.some (L24_4 x0 h0 h1 h2 h3 h4)
        · refine Ans.ite (fun h4 => ?_) (fun h4 => ?_)
          · refine Ans.pre (fun h5 => ?_)
            refine Ans.ite (fun h6 => ?_) (fun h6 => ?_)
            · exact Ans.some (L24_5 x0 h0 h1 h2 h3 h4 h5 h6)
            · exact Ans.some (L24_6 x0 h0 h1 h2 h3 h4 h5 h6)
          · refine Ans.ite (fun h5 => ?_) (fun h5 => ?_)
            · refine Ans.ite (fun h6 => ?_) (fun h6 => ?_)
              · exact Ans.some (L24_7 x0 h0 h1 h2 h3 h4 h5 h6)
              · exact Ans.some (L24_8 x0 h0 h1 h2 h3 h4 h5 h6)
            · refine Ans.ite (fun h6 => ?_) (fun h6 => ?_)
              · exact Ans.some (L24_9 x0 h0 h1 h2 h3 h4 h5 h6)
              · refine Ans.ite (fun h7 => ?_) (fun h7 => ?_)
                · refine Ans.ite (fun h8 => ?_) (fun h8 => ?_)
                  · exact Ans.some (L24_10 x0 h0 h1 h2 h3 h4 h5 h6 h7 h8)
                  · exact Ans.some (L24_11 x0 h0 h1 h2 h3 h4 h5 h6 h7 h8)
                · refine Ans.ite (fun h8 => ?_) (fun h8 => ?_)
                  · refine Ans.ite (fun h9 => ?_) (fun h9 => ?_)
                    · exact Ans.some (L24_12 x0 h0 h1 h2 h3 h4 h5 h6 h7 h8 h9)
                    · exact Ans.some (L24_13 x0 h0 h1 h2 h3 h4 h5 h6 h7 h8 h9)
                  · refine Ans.ite (fun h9 => ?_) (fun h9 => ?_)
                    · refine Ans.pre (fun h10 => ?_)
                      refine Ans.ite (fun h11 => ?_) (fun h11 => ?_)
                      · refine Ans.ite (fun h12 => ?_) (fun h12 => ?_)
                        · refine Ans.ite (fun h13 => ?_) (fun h13 => ?_)
                          · exact Ans.some (L24_14 x0 h0 h1 h2 h3 h4 h5 h6 h7 h8 h9 h10 h11 h12 h13)
                          · exact Ans.some (L24_15 x0 h0 h1 h2 h3 h4 h5 h6 h7 h8 h9 h10 h11 h12 h13)
                        · exact Ans.some (L24_16 x0 h0 h1 h2 h3 h4 h5 h6 h7 h8 h9 h10 h11 h12)
                      · exact Ans.some (L24_17 x0 h0 h1 h2 h3 h4 h5 h6 h7 h8 h9 h10 h11)
                    · refine Ans.ite (fun h10 => ?_) (fun h10 => ?_)
                      · refine Ans.pre (fun h11 => ?_)
                        refine Ans.ite (fun h12 => ?_) (fun h12 => ?_)
                        · refine Ans.ite (fun h13 => ?_) (fun h13 => ?_)
                          · refine Ans.pre (fun h14 => ?_)
                            refine Ans.ite (fun h15 => ?_) (fun h15 => ?_)
                            · exact Ans.some (L24_18 x0 h0 h1 h2 h3 h4 h5 h6 h7 h8 h9 h10 h11 h12 h13 h14 h15)
                            · exact Ans.some (L24_19 x0 h0 h1 h2 h3 h4 h5 h6 h7 h8 h9 h10 h11 h12 h13 h14 h15)
                          · exact Ans.some (L24_20 x0 h0 h1 h2 h3 h4 h5 h6 h7 h8 h9 h10 h11 h12 h13)
                        · exact Ans.some (L24_21 x0 h0 h1 h2 h3 h4 h5 h6 h7 h8 h9 h10 h11 h12)
                      · exact Ans.some (L24_22 x0 h0 h1 h2 h3 h4 h5 h6 h7 h8 h9 h10)
    · exact Ans.some (L24_23 x0 h0 h1)
  · exact Ans.some (L24_24 x0 h0)
-- function 21: loop.example/g00188/laws.szCommand
theorem L21_0 (x0 : S26) (x1 : Int) (h0 : (decide ((IntKind.wrap .i64 (x1 - (x0.f3.size : Int))) < (0 : Int))) = true) : Does E 21 [.agg (S26.t .far x0), .one (tI x1)] [(false, [tI (-1 : Int)])] :=
  Does.path (fn := Try.f21) [.no, .b true] [fun _ => (decide ((IntKind.wrap .i64 (x1 - (x0.f3.size : Int))) < (0 : Int))) = true] rfl rfl (fun k => by kernel_rfl) ⟨Ev.c h0, trivial⟩
theorem L21_1 (x0 : S26) (x1 : Int) (h0 : (decide ((IntKind.wrap .i64 (x1 - (x0.f3.size : Int))) < (0 : Int))) = false) (h1 : (decide ((IntKind.wrap .i64 ((IntKind.wrap .i64 (x1 - (x0.f3.size : Int))) - (x0.f4.size : Int))) < (0 : Int))) = true) : Does E 21 [.agg (S26.t .far x0), .one (tI x1)] [(false, [tI (-1 : Int)])] :=
  Does.path (fn := Try.f21) [.no, .b false, .no, .b true] [fun _ => (decide ((IntKind.wrap .i64 (x1 - (x0.f3.size : Int))) < (0 : Int))) = false, fun _ => (decide ((IntKind.wrap .i64 ((IntKind.wrap .i64 (x1 - (x0.f3.size : Int))) - (x0.f4.size : Int))) < (0 : Int))) = true] rfl rfl (fun k => by kernel_rfl) ⟨Ev.c h0, Ev.c h1, trivial⟩
theorem L21_2 (x0 : S26) (x1 : Int) (h0 : (decide ((IntKind.wrap .i64 (x1 - (x0.f3.size : Int))) < (0 : Int))) = false) (h1 : (decide ((IntKind.wrap .i64 ((IntKind.wrap .i64 (x1 - (x0.f3.size : Int))) - (x0.f4.size : Int))) < (0 : Int))) = false) : Does E 21 [.agg (S26.t .far x0), .one (tI x1)] [(false, [tI (IntKind.wrap .i64 ((IntKind.wrap .i64 (x1 - (x0.f3.size : Int))) - (x0.f4.size : Int)))])] :=
  Does.path (fn := Try.f21) [.no, .b false, .no, .b false] [fun _ => (decide ((IntKind.wrap .i64 (x1 - (x0.f3.size : Int))) < (0 : Int))) = false, fun _ => (decide ((IntKind.wrap .i64 ((IntKind.wrap .i64 (x1 - (x0.f3.size : Int))) - (x0.f4.size : Int))) < (0 : Int))) = false] rfl rfl (fun k => by kernel_rfl) ⟨Ev.c h0, Ev.c h1, trivial⟩
def sem21 (x0 : S26) (x1 : Int) : Option (Int) :=
    cond (decide ((IntKind.wrap .i64 (x1 - (x0.f3.size : Int))) < (0 : Int)))
      (some ((-1 : Int)))
      (cond (decide ((IntKind.wrap .i64 ((IntKind.wrap .i64 (x1 - (x0.f3.size : Int))) - (x0.f4.size : Int))) < (0 : Int)))
        (some ((-1 : Int)))
        (some (IntKind.wrap .i64 ((IntKind.wrap .i64 (x1 - (x0.f3.size : Int))) - (x0.f4.size : Int)))))
theorem D21 (x0 : S26) (x1 : Int) : Ans (sem21 x0 x1) (fun r => Does E 21 [.agg (S26.t .far x0), .one (tI x1)] [(false, [tI r])]) := by
  unfold sem21
  refine Ans.ite (fun h0 => ?_) (fun h0 => ?_)
  · exact Ans.some (L21_0 x0 x1 h0)
  · refine Ans.ite (fun h1 => ?_) (fun h1 => ?_)
    · exact Ans.some (L21_1 x0 x1 h0 h1)
    · exact Ans.some (L21_2 x0 x1 h0 h1)
-- function 23: loop.example/g00188/laws.toCommand
theorem L23_0 (x0 : S26)  : Does E 23 [.agg (S26.t .far x0)] [(true, S26.t .own x0)] :=
  Does.path (fn := Try.f23) [] [] rfl rfl (fun k => by kernel_rfl) trivial
def sem23 (x0 : S26) : Option (S26) :=
    some (x0)
theorem D23 (x0 : S26) : Ans (sem23 x0) (fun r => Does E 23 [.agg (S26.t .far x0)] [(true, S26.t .own r)]) := by
  unfold sem23
  exact Ans.some (L23_0 x0)
def Tot {α : Type} (o : Option α) : Prop := ∃ b, o = some b
theorem Tot.some {α : Type} (b : α) : Tot (some b) := ⟨b, rfl⟩
theorem Tot.cond {α : Type} {c : Bool} {a b : Option α} (h : Tot a) (g : Tot b) : Tot (cond c a b) := by cases c; exact g; exact h
theorem Tot.getD {α : Type} {o : Option α} (h : Tot o) (d : α) : o = Option.some (o.getD d) := by obtain ⟨b, rfl⟩ := h; rfl
theorem condCongr {α : Type} {c : Bool} {a b a' b' : α} (h : c = true → a = a') (g : c = false → b = b') : cond c a b = cond c a' b' := by
  cases c
  · exact g rfl
  · exact h rfl
def cmdOk (x : S26) : Bool := (sem22 x).getD false
def Short (x : S26) : Prop := x.f3.size < 4611686018427387904 ∧ x.f4.size < 4611686018427387904
instance (x : S26) : Decidable (Short x) := by unfold Short; exact inferInstance
theorem sem22_ok {x : S26} (h : Short x) : sem22 x = some (cmdOk x) := by
  refine Tot.getD ?_ _
  unfold sem22
  rw [if_pos h.1, if_pos h.1, if_pos h.1, if_pos h.2]
  repeat' (first | exact Tot.some _ | apply Tot.cond)
theorem sem24_ok {x : S26} (h : Short x) : sem24 x = some (cmdOk x) := by
  rw [← sem22_ok h]
  unfold sem24 sem22
  rw [if_pos h.1, if_pos h.1, if_pos h.1, if_pos h.2, if_pos h.1, if_pos h.1, if_pos h.1, if_pos h.2]
  have key : ∀ (a b : Bool) (p q : Option Bool), cond a (cond b p q) q = cond b (cond a p q) q := by intro a b p q; cases a <;> cases b <;> rfl
  have e9 : ∀ p, (cond (nameOk x.f4) (cond (inRange x.f5 (0 : Int) (68374079 : Int)) p (some false)) (some false) : Option Bool) = cond (isMinute x.f5) (cond (nameOk x.f4) p (some false)) (some false) := fun p => key _ _ _ _
  rw [e9]
  simp only [isIndex, isMinute]
  repeat' (first | rfl | refine condCongr (fun _ => ?_) (fun _ => ?_))
  all_goals (simp only [rest, beq_self_eq_true, Bool.true_or, Bool.false_or, Bool.true_and, Bool.and_true, Option.some.injEq]; first | done | (cases x.f7 <;> simp))
theorem T22 (x : S26) (h : Short x) : Does E 22 [.agg (S26.t .far x)] [(false, [tB (cmdOk x)])] := D22 x _ (sem22_ok h)
theorem T24 (x : S26) (h : Short x) : Does E 24 [.agg (S26.t .far x)] [(false, [tB (cmdOk x)])] := D24 x _ (sem24_ok h)
def szCmd (x : S26) (l : Int) : Int := (sem21 x l).getD 0
theorem T21 (x : S26) (l : Int) : Does E 21 [.agg (S26.t .far x), .one (tI l)] [(false, [tI (szCmd x l)])] := D21 x l _ (by
  refine Tot.getD ?_ _
  unfold sem21
  repeat' (first | exact Tot.some _ | apply Tot.cond))
def toCmd (x : S26) : S26 := x
theorem T23 (x : S26) : Does E 23 [.agg (S26.t .far x)] [(true, S26.t .own (toCmd x))] := D23 x _ rfl
theorem wrap_id (n : Int) (h : -9223372036854775808 ≤ n) (h' : n ≤ 9223372036854775807) : IntKind.wrap .i64 n = n := by
  simp only [IntKind.wrap, IntKind.bits, IntKind.signed]
  simp
  omega
theorem szCmd_short {x : S26} (h3 : x.f3.size ≤ 9223372036854775807) (h4 : x.f4.size ≤ 9223372036854775807) (h : decide (szCmd x (1048576 : Int) < (0 : Int)) = false) : Short x := by
  unfold szCmd sem21 at h
  rw [wrap_id _ (by omega) (by omega)] at h
  by_cases h5 : (1048576 : Int) - (x.f3.size : Int) < 0
  · rw [decide_eq_true h5] at h
    simp at h
  · rw [decide_eq_false h5, wrap_id _ (by omega) (by omega)] at h
    by_cases h6 : (1048576 : Int) - (x.f3.size : Int) - (x.f4.size : Int) < 0
    · rw [decide_eq_true h6] at h
      simp at h
    · exact ⟨by omega, by omega⟩
-- function 6: loop.example/g00188/laws.FnExactCommandOk
theorem L6_0 (x0 : S26) (h0 : (decide ((szCmd x0 (1048576 : Int)) < (0 : Int))) = true) : Does E 6 [.agg (S26.t .far x0)] [(false, [tB true])] :=
  Does.path (fn := Try.f6) [.ret [(false, [tI (szCmd x0 (1048576 : Int))])], .b true] [fun k => E.C k 21 [.agg (S26.t .far x0), .one (tI (1048576 : Int))] = some [(false, [tI (szCmd x0 (1048576 : Int))])], fun _ => (decide ((szCmd x0 (1048576 : Int)) < (0 : Int))) = true] rfl rfl (fun k => by kernel_rfl) ⟨T21 x0 (1048576 : Int), Ev.c h0, trivial⟩
theorem L6_1 (x0 : S26) (h0 : (decide ((szCmd x0 (1048576 : Int)) < (0 : Int))) = false) (h1 : Short (toCmd x0)) (h2 : (!((cmdOk (toCmd x0)) == (cmdOk (toCmd x0)))) = true) : Does E 6 [.agg (S26.t .far x0)] [(false, [tB false])] :=
  Does.path (fn := Try.f6) [.ret [(false, [tI (szCmd x0 (1048576 : Int))])], .b false, .ret [(true, S26.t .own (toCmd x0))], .ret [(false, [tB (cmdOk (toCmd x0))])], .ret [(true, S26.t .own (toCmd x0))], .ret [(false, [tB (cmdOk (toCmd x0))])], .b true] [fun k => E.C k 21 [.agg (S26.t .far x0), .one (tI (1048576 : Int))] = some [(false, [tI (szCmd x0 (1048576 : Int))])], fun _ => (decide ((szCmd x0 (1048576 : Int)) < (0 : Int))) = false, fun k => E.C k 23 [.agg (S26.t .far x0)] = some [(true, S26.t .own (toCmd x0))], fun k => E.C k 22 [.agg (S26.t .far (toCmd x0))] = some [(false, [tB (cmdOk (toCmd x0))])], fun k => E.C k 23 [.agg (S26.t .far x0)] = some [(true, S26.t .own (toCmd x0))], fun k => E.C k 24 [.agg (S26.t .far (toCmd x0))] = some [(false, [tB (cmdOk (toCmd x0))])], fun _ => (!((cmdOk (toCmd x0)) == (cmdOk (toCmd x0)))) = true] rfl rfl (fun k => by kernel_rfl) ⟨T21 x0 (1048576 : Int), Ev.c h0, T23 x0, T22 (toCmd x0) h1, T23 x0, T24 (toCmd x0) h1, Ev.c h2, trivial⟩
theorem L6_2 (x0 : S26) (h0 : (decide ((szCmd x0 (1048576 : Int)) < (0 : Int))) = false) (h1 : Short (toCmd x0)) (h2 : (!((cmdOk (toCmd x0)) == (cmdOk (toCmd x0)))) = false) : Does E 6 [.agg (S26.t .far x0)] [(false, [tB true])] :=
  Does.path (fn := Try.f6) [.ret [(false, [tI (szCmd x0 (1048576 : Int))])], .b false, .ret [(true, S26.t .own (toCmd x0))], .ret [(false, [tB (cmdOk (toCmd x0))])], .ret [(true, S26.t .own (toCmd x0))], .ret [(false, [tB (cmdOk (toCmd x0))])], .b false] [fun k => E.C k 21 [.agg (S26.t .far x0), .one (tI (1048576 : Int))] = some [(false, [tI (szCmd x0 (1048576 : Int))])], fun _ => (decide ((szCmd x0 (1048576 : Int)) < (0 : Int))) = false, fun k => E.C k 23 [.agg (S26.t .far x0)] = some [(true, S26.t .own (toCmd x0))], fun k => E.C k 22 [.agg (S26.t .far (toCmd x0))] = some [(false, [tB (cmdOk (toCmd x0))])], fun k => E.C k 23 [.agg (S26.t .far x0)] = some [(true, S26.t .own (toCmd x0))], fun k => E.C k 24 [.agg (S26.t .far (toCmd x0))] = some [(false, [tB (cmdOk (toCmd x0))])], fun _ => (!((cmdOk (toCmd x0)) == (cmdOk (toCmd x0)))) = false] rfl rfl (fun k => by kernel_rfl) ⟨T21 x0 (1048576 : Int), Ev.c h0, T23 x0, T22 (toCmd x0) h1, T23 x0, T24 (toCmd x0) h1, Ev.c h2, trivial⟩
def sem6 (x0 : S26) : Option (Bool) :=
    cond (decide ((szCmd x0 (1048576 : Int)) < (0 : Int)))
      (some (true))
      (if Short (toCmd x0) then cond (!((cmdOk (toCmd x0)) == (cmdOk (toCmd x0))))
        (some (false))
        (some (true)) else none)
theorem D6 (x0 : S26) : Ans (sem6 x0) (fun r => Does E 6 [.agg (S26.t .far x0)] [(false, [tB r])]) := by
  unfold sem6
  refine Ans.ite (fun h0 => ?_) (fun h0 => ?_)
  · exact Ans.some (L6_0 x0 h0)
  · refine Ans.pre (fun h1 => ?_)
    refine Ans.ite (fun h2 => ?_) (fun h2 => ?_)
    · exact Ans.some (L6_1 x0 h0 h1 h2)
    · exact Ans.some (L6_2 x0 h0 h1 h2)
theorem law6 (x : S26) (h3 : x.f3.size ≤ 9223372036854775807) (h4 : x.f4.size ≤ 9223372036854775807) : Does E 6 [.agg (S26.t .far x)] [(false, [tB true])] := D6 x _ (by
  unfold sem6 toCmd
  cases h : decide (szCmd x (1048576 : Int) < (0 : Int))
  · have hs := szCmd_short h3 h4 h
    rw [if_pos (show Short x from hs)]
    cases cmdOk x <;> rfl
  · rfl)
end Go.Proofs.Ytbphhigmepdohaa.Am
