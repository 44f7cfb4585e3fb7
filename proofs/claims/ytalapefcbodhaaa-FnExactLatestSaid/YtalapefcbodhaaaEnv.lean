/- The types and functions of the seat, as the machine takes them. Conditions: none. -/
import Derived.Test.YtalapefcbodhaaaAmc
import Derived.Test.YtalapefcbodhaaaProg
import Derived.KernelRfl
import Derived.WalkKit
import Derived.RegionTactic
import Derived.ChangeAlike
import Derived.BigRegion
namespace Go.Proofs.Ytalapefcbodhaaa.Am
set_option linter.unusedVariables false
set_option linter.unusedSimpArgs false
open Go Go.Proofs
set_option maxRecDepth 100000
set_option maxHeartbeats 4000000 in
theorem addr37_ok : AddrOk Try.prog 37 [0, 1, 2, 3, 4] := fun b w => by
  go_enter Try.func37, Try.ntmps37
  go_wp2
  go_region
  go_wp2
  refine bodyPost_ret (v := .agg #[.pointer (some ⟨b.1, b.2, none⟩), .pointer (some ⟨b.1, b.2 + 1, none⟩), .pointer (some ⟨b.1, b.2 + 2, none⟩), .pointer (some ⟨b.1, b.2 + 3, none⟩), .pointer (some ⟨b.1, b.2 + 4, none⟩)]) (by simp [results, Try.results37, go_sem]) rfl ⟨rfl, (Grew.alloc _ _).trans (Grew.drew _)⟩
end Go.Proofs.Ytalapefcbodhaaa.Am
namespace Go.Proofs.Ytalapefcbodhaaa.Am
set_option linter.unusedVariables false
set_option linter.unusedSimpArgs false
open Go Go.Proofs
set_option maxRecDepth 100000
def tab : Tab where
  ts := [(2, ⟨1, 8, [tI (0 : Int)], .int .i64⟩),
    (3, ⟨1, 8, [tI (0 : Int)], .int .i64⟩),
    (4, ⟨1, 1, [tB false], .bool⟩),
    (5, ⟨1, 1, [tY (0 : Int)], .int .u8⟩),
    (6, ⟨1, 1, [tY (0 : Int)], .int .u8⟩),
    (7, ⟨4, 24, [tI (0 : Int), tI (0 : Int), tB false, tY (0 : Int)], .struct [0, 1, 2, 3]⟩),
    (8, ⟨4, 24, [tI (0 : Int), tI (0 : Int), tB false, tY (0 : Int)], .struct [0, 1, 2, 3]⟩),
    (9, ⟨1, 16, [tS ByteArray.empty], .str⟩),
    (10, ⟨1, 16, [tS ByteArray.empty], .str⟩),
    (11, ⟨1, 16, [tS ByteArray.empty], .str⟩),
    (12, ⟨1, 8, [.v (.int .u64 0)], .int .u64⟩),
    (13, ⟨2, 24, [tS ByteArray.empty, .v (.int .u64 0)], .struct [0, 1]⟩),
    (14, ⟨2, 24, [tS ByteArray.empty, .v (.int .u64 0)], .struct [0, 1]⟩),
    (21, ⟨1, 4, [.v (.int .i32 0)], .int .i32⟩),
    (22, ⟨1, 24, [.s .own () 1 []], .slice 5⟩),
    (24, ⟨1, 24, [.s .own () 1 []], .slice 3⟩),
    (25, ⟨5, 120, [.s .own () 1 [], .s .own () 1 [], .s .own () 1 [], .s .own () 1 [], .s .own () 1 []], .struct [0, 1, 2, 3, 4]⟩),
    (26, ⟨5, 120, [.s .own () 1 [], .s .own () 1 [], .s .own () 1 [], .s .own () 1 [], .s .own () 1 []], .struct [0, 1, 2, 3, 4]⟩),
    (30, ⟨1, 24, [.s .own () 2 []], .slice 34⟩),
    (33, ⟨2, 16, [tI (0 : Int), tI (0 : Int)], .struct [0, 1]⟩),
    (34, ⟨2, 16, [tI (0 : Int), tI (0 : Int)], .struct [0, 1]⟩),
    (40, ⟨5, 120, [.s .own () 1 [], .s .own () 1 [], .s .own () 1 [], .s .own () 1 [], .s .own () 1 []], .struct [0, 1, 2, 3, 4]⟩),
    (59, ⟨3, 40, [.s .own () 1 [], tI (0 : Int), tI (0 : Int)], .struct [0, 1, 2]⟩),
    (60, ⟨3, 40, [.s .own () 1 [], tI (0 : Int), tI (0 : Int)], .struct [0, 1, 2]⟩),
    (62, ⟨1, 8, [.v (.int .u64 0)], .int .u64⟩),
    (69, ⟨5, 40, [tI (0 : Int), tI (0 : Int), tI (0 : Int), tI (0 : Int), tI (0 : Int)], .struct [0, 1, 2, 3, 4]⟩),
    (70, ⟨5, 40, [tI (0 : Int), tI (0 : Int), tI (0 : Int), tI (0 : Int), tI (0 : Int)], .struct [0, 1, 2, 3, 4]⟩),
    (87, ⟨1, 4, [.v (.int .u32 0)], .int .u32⟩),
    (88, ⟨1, 1, [tY (0 : Int)], .int .u8⟩),
    (89, ⟨1, 1, [tY (0 : Int)], .int .u8⟩),
    (92, ⟨1, 4, [.v (.int .i32 0)], .int .i32⟩),
    (93, ⟨1, 4, [.v (.int .i32 0)], .int .i32⟩)]
  eqs := [(33, [(0, 3), (1, 3)]),
    (34, [(0, 3), (1, 3)]),
    (69, [(0, 3), (1, 3), (2, 3), (3, 3), (4, 3)]),
    (70, [(0, 3), (1, 3), (2, 3), (3, 3), (4, 3)])]
  pls := [(7, [(0, 1), (1, 1), (2, 1), (3, 1)]),
    (8, [(0, 1), (1, 1), (2, 1), (3, 1)]),
    (13, [(0, 1), (1, 1)]),
    (14, [(0, 1), (1, 1)]),
    (25, [(0, 1), (1, 1), (2, 1), (3, 1), (4, 1)]),
    (26, [(0, 1), (1, 1), (2, 1), (3, 1), (4, 1)]),
    (33, [(0, 1), (1, 1)]),
    (34, [(0, 1), (1, 1)]),
    (40, [(0, 1), (1, 1), (2, 1), (3, 1), (4, 1)]),
    (59, [(0, 1), (1, 1), (2, 1)]),
    (60, [(0, 1), (1, 1), (2, 1)]),
    (69, [(0, 1), (1, 1), (2, 1), (3, 1), (4, 1)]),
    (70, [(0, 1), (1, 1), (2, 1), (3, 1), (4, 1)])]
  io := [(27, 4)]
  gv := [27]
  addr := [(37, [0, 1, 2, 3, 4])]
  ars := [(64, 5)]
  pw := [(37, [5])]
noncomputable def fnTab : List (Nat × Func) := [(4, Try.f4), (11, Try.f11), (15, Try.f15), (16, Try.f16), (17, Try.f17), (18, Try.f18), (19, Try.f19), (20, Try.f20), (25, Try.f25), (26, Try.f26), (27, Try.f27), (28, Try.f28), (29, Try.f29), (30, Try.f30), (31, Try.f31), (32, Try.f32), (33, Try.f33), (34, Try.f34), (35, Try.f35), (37, Try.f37), (38, Try.f38), (39, Try.f39), (40, Try.f40), (41, Try.f41), (42, Try.f42), (43, Try.f43), (44, Try.f44), (46, Try.f46), (47, Try.f47), (48, Try.f48), (49, Try.f49), (50, Try.f50), (51, Try.f51), (52, Try.f52), (53, Try.f53), (54, Try.f54), (55, Try.f55), (56, Try.f56), (57, Try.f57)]
def hints : FuncId → Hint
  | 4 => { take := fun r i => match r, i with | 6, 3 => true | _, _ => false, draw := fun i => match i with | 10 => some (3, [[], [], [1], [0, 1, 2], [0, 1, 2, 3]]) | _ => none }
  | 11 => { draw := fun i => match i with | 16 => some (14, [[], [0], [], [2], [], [2, 3, 4], [2, 3, 4, 5], [2, 3, 4, 5, 6], [0, 1, 2, 3, 4, 5, 6, 7], [], [9], [], [9, 10, 11], [9, 10, 11, 12], [0, 1, 2, 3, 4, 5, 6, 7, 8, 9, 10, 11, 12, 13], [0, 1, 2, 3, 4, 5, 6, 7, 8, 9, 10, 11, 12, 13, 14]]) | _ => none, head := fun i => match i with | 7 => some [1, 2, 3, 8, 9] | 11 => some [1, 2, 3, 8, 9, 10] | 14 => some [1, 2, 3, 8, 9, 10, 11] | _ => none, tail := fun i e => match i, e with | 7, .exit 0 => some [] | 7, .ret => some [6, 7] | 11, .exit 0 => some [] | 11, .exit 1 => some [1, 2, 3, 8, 9] | 11, .exit 2 => some [1, 2, 3, 8, 9] | 11, .ret => some [6, 7] | 14, .exit 0 => some [] | 14, .exit 1 => some [1, 2, 3, 8, 9] | 14, .exit 2 => some [1, 2, 3, 8, 9] | 14, .exit 3 => some [1, 2, 3, 8, 9, 10] | 14, .exit 4 => some [1, 2, 3, 8, 9, 10] | 14, .ret => some [6, 7] | _, _ => none }
  | 16 => { take := fun r i => match r, i with | 1, 5 => true | _, _ => false }
  | 17 => { take := fun r i => match r, i with | 2, 4 => true | 3, 4 => true | 4, 4 => true | 5, 4 => true | 6, 4 => true | 7, 0 => true | 7, 1 => true | _, _ => false }
  | 18 => { take := fun r i => match r, i with | 3, 4 => true | _, _ => false }
  | 25 => { head := fun i => match i with | 2 => some [1, 10, 11] | 7 => some [1, 5, 6, 7, 10, 11, 23, 24, 25] | _ => none, tail := fun i e => match i, e with | 2, .exit 0 => some [] | 2, .ret => some [2] | 7, .exit 0 => some [] | 7, .exit 1 => some [10, 11] | 7, .exit 2 => some [1, 7, 10, 11] | 7, .ret => some [2] | _, _ => none }
  | 26 => { take := fun r i => match r, i with | 6, 0 => true | 6, 6 => true | 8, 0 => true | 8, 1 => true | _, _ => false, head := fun i => match i with | 3 => some [2, 3, 4, 9, 10, 11] | _ => none, tail := fun i e => match i, e with | 3, .exit 0 => some [9] | 3, .ret => some [8] | _, _ => none }
  | 27 => { take := fun r i => match r, i with | 5, 0 => true | 5, 1 => true | 6, 0 => true | 6, 6 => true | 8, 0 => true | 8, 1 => true | _, _ => false, head := fun i => match i with | 2 => some [2, 3, 4, 5, 11, 12] | _ => none, tail := fun i e => match i, e with | 2, .exit 0 => some [4] | 2, .ret => some [10] | _, _ => none }
  | 30 => { draw := fun i => match i with | 3 => some (4, [[], [0], [], [2], [0, 1, 2, 3], [0, 1, 2, 3, 4]]) | _ => none }
  | 31 => { head := fun i => match i with | 2 => some [0, 1, 5] | _ => none, tail := fun i e => match i, e with | 2, .exit 0 => some [] | 2, .ret => some [4] | _, _ => none }
  | 34 => { take := fun r i => match r, i with | 1, 3 => true | 6, 0 => true | 6, 1 => true | _, _ => false, head := fun i => match i with | 3 => some [0, 3, 4] | _ => none, tail := fun i e => match i, e with | 3, .exit 0 => some [3] | 3, .ret => some [2] | _, _ => none }
  | 35 => { draw := fun i => match i with | 6 => some (8, [[], [], [0, 1], [0, 1, 2], [], [], [4, 5], [4, 5, 6], [0, 1, 2, 3, 4, 5, 6, 7]]) | _ => none, head := fun i => match i with | 4 => some [0, 1, 5] | _ => none, tail := fun i e => match i, e with | 4, .exit 0 => some [] | 4, .ret => some [4] | _, _ => none }
  | 37 => { draw := fun i => match i with | 1 => some (15, [[], [0], [0, 1], [], [3], [3, 4], [], [6], [6, 7], [], [9], [9, 10], [], [12], [12, 13], [0, 1, 2, 3, 4, 5, 6, 7, 8, 9, 10, 11, 12, 13, 14], [0, 1, 2, 3, 4, 5, 6, 7, 8, 9, 10, 11, 12, 13, 14, 15]]) | _ => none }
  | 40 => { head := fun i => match i with | 2 => some [1, 2, 3, 8] | _ => none, tail := fun i e => match i, e with | 2, .exit 0 => some [] | 2, .ret => some [6, 7] | _, _ => none }
  | 41 => { draw := fun i => match i with | 4 => some (21, [[], [], [0, 1], [0, 1, 2], [], [], [0, 1, 2, 3, 4, 5], [0, 1, 2, 3, 4, 5, 6], [0, 1, 2, 3, 4, 5, 6, 7], [0, 1, 2, 3, 4, 5, 6, 7, 8], [0, 1, 2, 3, 4, 5, 6, 7, 8, 9], [0, 1, 2, 3, 4, 5, 6, 7, 8, 9, 10], [0, 1, 2, 3, 4, 5, 6, 7, 8, 9, 10, 11], [0, 1, 2, 3, 4, 5, 6, 7, 8, 9, 10, 11], [0, 1, 2, 3, 4, 5, 6, 7, 8, 9, 10, 11, 13], [0, 1, 2, 3, 4, 5, 6, 7, 8, 9, 10, 11, 12, 13, 14], [0, 1, 2, 3, 4, 5, 6, 7, 8, 9, 10, 11, 12, 13, 14, 15], [0, 1, 2, 3, 4, 5, 6, 7, 8, 9, 10, 11], [0, 1, 2, 3, 4, 5, 6, 7, 8, 9, 10, 11], [0, 1, 2, 3, 4, 5, 6, 7, 8, 9, 10, 11, 17, 18], [0, 1, 2, 3, 4, 5, 6, 7, 8, 9, 10, 11, 17, 18, 19], [0, 1, 2, 3, 4, 5, 6, 7, 8, 9, 10, 11, 12, 13, 14, 15, 16, 17, 18, 19, 20], [0, 1, 2, 3, 4, 5, 6, 7, 8, 9, 10, 11, 12, 13, 14, 15, 16, 17, 18, 19, 20, 21], [0, 1, 2, 3, 4, 5, 6, 7, 8, 9, 10, 11, 12, 13, 14, 15, 16, 17, 18, 19, 20, 21, 22]]) | _ => none, head := fun i => match i with | 2 => some [0, 1, 2, 7] | _ => none, tail := fun i e => match i, e with | 2, .exit 0 => some [0] | 2, .ret => some [6] | _, _ => none }
  | 42 => { head := fun i => match i with | 5 => some [0, 2, 4, 5] | 9 => some [0, 2, 4, 5, 6] | _ => none, tail := fun i e => match i, e with | 5, .exit 0 => some [0, 2, 4, 5] | 5, .ret => some [2, 3] | 9, .exit 2 => some [0, 2, 4, 5, 6] | 9, .ret => some [2, 3] | _, _ => none }
  | 44 => { head := fun i => match i with | 2 => some [0, 1, 7, 8] | _ => none, tail := fun i e => match i, e with | 2, .exit 0 => some [] | 2, .ret => some [4] | _, _ => none }
  | 47 => { head := fun i => match i with | 5 => some [2, 4, 6] | 8 => some [2, 4, 6] | _ => none, tail := fun i e => match i, e with | 5, .exit 0 => some [2, 4, 6] | 5, .ret => some [2, 3] | 8, .exit 2 => some [2, 4, 6] | 8, .ret => some [2, 3] | _, _ => none }
  | 48 => { draw := fun i => match i with | 3 => some (9, [[], [0], [], [2], [0, 1, 2, 3], [], [5], [], [0, 1, 2, 3, 4, 7], [0, 1, 2, 3, 4, 5, 6, 7, 8], [0, 1, 2, 3, 4, 5, 6, 7, 8, 9], [0, 1, 2, 3, 4, 5, 6, 7, 8, 9, 10]]) | _ => none }
  | 49 => { head := fun i => match i with | 3 => some [1, 2, 6, 17, 18, 19] | 6 => some [1, 2, 6, 8, 17, 18, 19, 24, 25, 26] | _ => none, tail := fun i e => match i, e with | 3, .exit 0 => some [] | 3, .ret => some [4, 5] | 6, .exit 0 => some [] | 6, .exit 1 => some [1, 2, 6, 17, 18, 19] | 6, .exit 2 => some [1, 2, 6, 17, 18, 19] | 6, .ret => some [4, 5] | _, _ => none }
  | 51 => { take := fun r i => match r, i with | 1, 1 => true | 6, 0 => true | _, _ => false }
  | _ => {}
theorem allNil {α : Type} {p : α → Prop} : ∀ x ∈ ([] : List α), p x := fun x h => by cases h
theorem allCons {α : Type} {p : α → Prop} {a : α} {l : List α} (h : p a) (t : ∀ x ∈ l, p x) : ∀ x ∈ a :: l, p x := fun x hx => by
  rcases List.mem_cons.1 hx with rfl | hx
  · exact h
  · exact t x hx
theorem ts_ok : ∀ p ∈ tab.ts, tiOf Try.prog p.1 = some p.2 := allCons (by kernel_rfl) (allCons (by kernel_rfl) (allCons (by kernel_rfl) (allCons (by kernel_rfl) (allCons (by kernel_rfl) (allCons (by kernel_rfl) (allCons (by kernel_rfl) (allCons (by kernel_rfl) (allCons (by kernel_rfl) (allCons (by kernel_rfl) (allCons (by kernel_rfl) (allCons (by kernel_rfl) (allCons (by kernel_rfl) (allCons (by kernel_rfl) (allCons (by kernel_rfl) (allCons (by kernel_rfl) (allCons (by kernel_rfl) (allCons (by kernel_rfl) (allCons (by kernel_rfl) (allCons (by kernel_rfl) (allCons (by kernel_rfl) (allCons (by kernel_rfl) (allCons (by kernel_rfl) (allCons (by kernel_rfl) (allCons (by kernel_rfl) (allCons (by kernel_rfl) (allCons (by kernel_rfl) (allCons (by kernel_rfl) (allCons (by kernel_rfl) (allCons (by kernel_rfl) (allCons (by kernel_rfl) (allCons (by kernel_rfl) (allNil))))))))))))))))))))))))))))))))
theorem eqs_ok : ∀ p ∈ tab.eqs, eqOf Try.prog p.1 = some p.2 := allCons (by kernel_rfl) (allCons (by kernel_rfl) (allCons (by kernel_rfl) (allCons (by kernel_rfl) (allNil))))
theorem pls_ok : ∀ p ∈ tab.pls, placesOf Try.prog p.1 = some p.2 := allCons (by kernel_rfl) (allCons (by kernel_rfl) (allCons (by kernel_rfl) (allCons (by kernel_rfl) (allCons (by kernel_rfl) (allCons (by kernel_rfl) (allCons (by kernel_rfl) (allCons (by kernel_rfl) (allCons (by kernel_rfl) (allCons (by kernel_rfl) (allCons (by kernel_rfl) (allCons (by kernel_rfl) (allCons (by kernel_rfl) (allNil)))))))))))))
theorem ars_ok : ∀ p ∈ tab.ars, arOf Try.prog p.1 = some p.2 := allCons (by kernel_rfl) (allNil)
theorem addr_ok : ∀ p ∈ tab.addr, AddrOk Try.prog p.1 p.2 := allCons addr37_ok (allNil)
theorem tab_ok : TabOk Try.prog tab := ⟨ts_ok, eqs_ok, pls_ok, by kernel_rfl, ars_ok, addr_ok⟩
theorem fnTab_ok : ∀ p ∈ fnTab, Try.prog.funcs[p.1]? = some p.2 ∧ (p.2.name == "runtime.NumGoroutine") = false ∧ p.2.body.isNone = false := allCons ⟨Try.func4, by kernel_rfl, by kernel_rfl⟩ (allCons ⟨Try.func11, by kernel_rfl, by kernel_rfl⟩ (allCons ⟨Try.func15, by kernel_rfl, by kernel_rfl⟩ (allCons ⟨Try.func16, by kernel_rfl, by kernel_rfl⟩ (allCons ⟨Try.func17, by kernel_rfl, by kernel_rfl⟩ (allCons ⟨Try.func18, by kernel_rfl, by kernel_rfl⟩ (allCons ⟨Try.func19, by kernel_rfl, by kernel_rfl⟩ (allCons ⟨Try.func20, by kernel_rfl, by kernel_rfl⟩ (allCons ⟨Try.func25, by kernel_rfl, by kernel_rfl⟩ (allCons ⟨Try.func26, by kernel_rfl, by kernel_rfl⟩ (allCons ⟨Try.func27, by kernel_rfl, by kernel_rfl⟩ (allCons ⟨Try.func28, by kernel_rfl, by kernel_rfl⟩ (allCons ⟨Try.func29, by kernel_rfl, by kernel_rfl⟩ (allCons ⟨Try.func30, by kernel_rfl, by kernel_rfl⟩ (allCons ⟨Try.func31, by kernel_rfl, by kernel_rfl⟩ (allCons ⟨Try.func32, by kernel_rfl, by kernel_rfl⟩ (allCons ⟨Try.func33, by kernel_rfl, by kernel_rfl⟩ (allCons ⟨Try.func34, by kernel_rfl, by kernel_rfl⟩ (allCons ⟨Try.func35, by kernel_rfl, by kernel_rfl⟩ (allCons ⟨Try.func37, by kernel_rfl, by kernel_rfl⟩ (allCons ⟨Try.func38, by kernel_rfl, by kernel_rfl⟩ (allCons ⟨Try.func39, by kernel_rfl, by kernel_rfl⟩ (allCons ⟨Try.func40, by kernel_rfl, by kernel_rfl⟩ (allCons ⟨Try.func41, by kernel_rfl, by kernel_rfl⟩ (allCons ⟨Try.func42, by kernel_rfl, by kernel_rfl⟩ (allCons ⟨Try.func43, by kernel_rfl, by kernel_rfl⟩ (allCons ⟨Try.func44, by kernel_rfl, by kernel_rfl⟩ (allCons ⟨Try.func46, by kernel_rfl, by kernel_rfl⟩ (allCons ⟨Try.func47, by kernel_rfl, by kernel_rfl⟩ (allCons ⟨Try.func48, by kernel_rfl, by kernel_rfl⟩ (allCons ⟨Try.func49, by kernel_rfl, by kernel_rfl⟩ (allCons ⟨Try.func50, by kernel_rfl, by kernel_rfl⟩ (allCons ⟨Try.func51, by kernel_rfl, by kernel_rfl⟩ (allCons ⟨Try.func52, by kernel_rfl, by kernel_rfl⟩ (allCons ⟨Try.func53, by kernel_rfl, by kernel_rfl⟩ (allCons ⟨Try.func54, by kernel_rfl, by kernel_rfl⟩ (allCons ⟨Try.func55, by kernel_rfl, by kernel_rfl⟩ (allCons ⟨Try.func56, by kernel_rfl, by kernel_rfl⟩ (allCons ⟨Try.func57, by kernel_rfl, by kernel_rfl⟩ (allNil)))))))))))))))))))))))))))))))))))))))
noncomputable def fns : FuncId → Option Func := fun f => fnTab.lookup f
theorem fns_ok : FnsOk Try.prog fns := fun f fn h => fnTab_ok (f, fn) (mem_of_lookup h)
def orc : Sem1 → Sem1 := fun _ _ _ => none
theorem orc_ok : ∀ C, CallsOk Try.prog C → CallsOk Try.prog (orc C) := fun _ _ f _ rs h => by cases h
noncomputable def E : Env := ⟨tab, fns, hints, orc⟩
theorem strAdd {tab : Tab} {t : Nat} {a b : ByteArray} (h : a.size + b.size ≤ maxStr) : binV tab .add t (.string a) (.string b) = some (.string (a ++ b)) := by
  show (if a.size + b.size ≤ maxStr then some (Value.string (a ++ b)) else none) = _
  rw [if_pos h]
theorem runs {f : FuncId} {xs : List (Sl Unit Unit)} {x : Value} (h : Does E f xs [(false, [.v x])]) {w : World} {ad : List DSl} {vs : List Value} (he : ad.map Sl.er = xs) (hA : ArgsIn w ad vs) :
    Calls Try.prog f vs.toArray w fun e w' => e = .returned x ∧ RowKit.Below w.heap.size w w' := Does.plain tab_ok fns_ok orc_ok h he hA
end Go.Proofs.Ytalapefcbodhaaa.Am
