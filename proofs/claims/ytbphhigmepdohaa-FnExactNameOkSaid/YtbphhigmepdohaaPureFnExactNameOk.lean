/- The program's NameOk and the reference's NameOk tell the same of every text. Conditions: none. -/
import Derived.Test.YtbphhigmepdohaaPFnExactNameOkx1
namespace Go.Proofs.Ytbphhigmepdohaa.Pure
open Go.RowKit Go.Proofs.Ytbphhigmepdohaa.PFnExactNameOk Go.Proofs.YtbphhigmepdohaaW.PrintWords Go.Proofs.YtbphhigmepdohaaW.PrintLast

def lets (c : Int) : Bool := decide (97 ≤ c) && decide (c ≤ 122)
def digs (c : Int) : Bool := decide (48 ≤ c) && decide (c ≤ 57)
def rests (s : ByteArray) : Nat → Int → Bool
  | 0, _ => true
  | d + 1, i => (lets (bt s i) || digs (bt s i)) && rests s d (i + 1)

theorem stepup {i : Int} {n : Nat} (h0 : 0 ≤ i) (h : i < (n : Int)) (hn : n ≤ 140737488351232) : wrap64 (i + 1) = i + 1 := by
  unfold wrap64
  omega

theorem spec_loop (s : ByteArray) (hn : s.size ≤ 140737488351232) (d : Nat) : ∀ (k : Nat) (i : Int), 0 ≤ i → (s.size : Int) - i = d → d < k →
    spec_NameOk.l0 k s i = some (rests s d i) := by
  induction d with
  | zero =>
    intro k i h0 hd hk
    obtain ⟨k, rfl⟩ : ∃ m, k = m + 1 := ⟨k - 1, by omega⟩
    simp only [spec_NameOk.l0]; rw [if_neg (by omega)]; rfl
  | succ d ih =>
    intro k i h0 hd hk
    obtain ⟨k, rfl⟩ : ∃ m, k = m + 1 := ⟨k - 1, by omega⟩
    have hlt : i < (s.size : Int) := by omega
    have hr := ih k (i + 1) (by omega) (by omega) (by omega)
    simp only [spec_NameOk.l0]; rw [if_pos hlt, if_pos h0, stepup h0 hlt hn, hr]
    simp only [rests, lets, digs]
    generalize rests s d (i + 1) = q
    generalize bt s i = c
    by_cases a : c < 97
    · rw [if_pos a]
      by_cases b : c < 48
      · rw [if_pos b]; (first | (simp; done) | (simp; omega) | (cases q <;> first | (simp; done) | (simp; omega)))
      · rw [if_neg b]
        by_cases e : c > 57
        · rw [if_pos e]; (first | (simp; done) | (simp; omega) | (cases q <;> first | (simp; done) | (simp; omega)))
        · rw [if_neg e]; (first | (simp; done) | (simp; omega) | (cases q <;> first | (simp; done) | (simp; omega)))
    · rw [if_neg a]
      by_cases b : c > 122
      · rw [if_pos b, if_neg (by omega), if_pos (by omega)]; (first | (simp; done) | (simp; omega) | (cases q <;> first | (simp; done) | (simp; omega)))
      · rw [if_neg b]; (first | (simp; done) | (simp; omega) | (cases q <;> first | (simp; done) | (simp; omega)))

theorem impl_loop (s : ByteArray) (hn : s.size ≤ 140737488351232) (d : Nat) : ∀ (k : Nat) (i : Int), 0 < i → (s.size : Int) - i = d → d < k →
    impl_NameOk.l0 k s i = some (rests s d i && (decide (1 ≤ (s.size : Int)) && decide ((s.size : Int) ≤ 8))) := by
  induction d with
  | zero =>
    intro k i h0 hd hk
    obtain ⟨k, rfl⟩ : ∃ m, k = m + 1 := ⟨k - 1, by omega⟩
    simp only [impl_NameOk.l0]; rw [if_neg (by omega)]
    unfold impl_inRange.f
    simp only [rests]
    by_cases a : (s.size : Int) ≥ 1
    · rw [if_pos a]; (first | (simp; done) | (simp; omega) | (cases q <;> first | (simp; done) | (simp; omega)))
    · rw [if_neg a]; (first | (simp; done) | (simp; omega) | (cases q <;> first | (simp; done) | (simp; omega)))
  | succ d ih =>
    intro k i h0 hd hk
    obtain ⟨k, rfl⟩ : ∃ m, k = m + 1 := ⟨k - 1, by omega⟩
    have hlt : i < (s.size : Int) := by omega
    have hr := ih k (i + 1) (by omega) (by omega) (by omega)
    simp only [impl_NameOk.l0]; rw [if_pos hlt, if_pos (by omega), stepup (by omega) hlt hn, hr, if_neg (show ¬ i = 0 by omega)]
    simp only [rests, lets, digs]
    generalize rests s d (i + 1) = q
    generalize bt s i = c
    by_cases a : c ≥ 97
    · rw [if_pos a]
      by_cases b : c ≤ 122
      · rw [if_pos b]; (first | (simp; done) | (simp; omega) | (cases q <;> first | (simp; done) | (simp; omega)))
      · rw [if_neg b, if_neg (by omega), if_pos (by omega)]; (first | (simp; done) | (simp; omega) | (cases q <;> first | (simp; done) | (simp; omega)))
    · rw [if_neg a]
      by_cases b : c < 48
      · rw [if_pos b]; (first | (simp; done) | (simp; omega) | (cases q <;> first | (simp; done) | (simp; omega)))
      · rw [if_neg b]
        by_cases e : c > 57
        · rw [if_pos e]; (first | (simp; done) | (simp; omega) | (cases q <;> first | (simp; done) | (simp; omega)))
        · rw [if_neg e]; (first | (simp; done) | (simp; omega) | (cases q <;> first | (simp; done) | (simp; omega)))

theorem FnExactNameOk : laws_FnExactNameOk.Pure := by
  intro s hn
  refine ⟨s.size + 2, ?_⟩
  unfold laws_FnExactNameOk.f
  by_cases big : (s.size : Int) > 1048576
  · rw [if_pos big]
  rw [if_neg big]
  suffices h : ∃ b, spec_NameOk.f (s.size + 2) s = some b ∧ impl_NameOk.f (s.size + 2) s = some b by
    obtain ⟨b, h1, h2⟩ := h
    rw [h1, h2]; simp
  by_cases z : s.size = 0
  · refine ⟨false, ?_, ?_⟩
    · unfold spec_NameOk.f spec_l01In.f
      rw [if_neg (by omega)]; simp [spec_NameOk.j0]
    · unfold impl_NameOk.f impl_NameOk.l0 impl_inRange.f
      rw [if_neg (by omega), if_neg (by omega)]; rfl
  · obtain ⟨n, hs⟩ : ∃ n, s.size = n + 1 := ⟨s.size - 1, by omega⟩
    have hr := spec_loop s hn (n + 1) (n + 2) 0 (by omega) (by omega) (by omega)
    have hi := impl_loop s hn n (n + 2) 1 (by omega) (by omega) (by omega)
    refine ⟨lets (bt s 0) && rests s n 1 && (decide (1 ≤ (s.size : Int)) && decide ((s.size : Int) ≤ 8)), ?_, ?_⟩
    · unfold spec_NameOk.f spec_l01In.f
      rw [hs]
      rw [if_pos (by omega)]
      simp only [Option.bind_some]
      by_cases e8 : ((n + 1 : Nat) : Int) ≤ 8
      · rw [decide_eq_true e8, if_pos rfl, if_pos (by omega)]
        simp only [rests, lets, digs, Int.zero_add] at hr
        simp only [lets]
        by_cases a : bt s 0 < 97
        · rw [if_pos a]; simp [spec_NameOk.j0]; omega
        · rw [if_neg a]
          by_cases b : bt s 0 > 122
          · simp [spec_NameOk.j0, b]; omega
          · have e1 : decide (97 ≤ bt s 0) = true := decide_eq_true (by omega)
            have e2 : decide (bt s 0 ≤ 122) = true := decide_eq_true (by omega)
            rw [e1, e2] at hr
            simp only [spec_NameOk.j0]
            rw [if_neg (by (first | (simp; done) | (simp; omega) | (cases q <;> first | (simp; done) | (simp; omega)))), hr, e1, e2]
            simp; omega
      · rw [decide_eq_false e8, if_neg (by simp)]
        simp [spec_NameOk.j0]
    · unfold impl_NameOk.f
      rw [hs, impl_NameOk.l0]
      rw [hs, if_pos (by omega), if_pos (by omega)]
      have w1 : wrap64 (0 + 1) = 1 := by unfold wrap64; omega
      rw [w1, hi, hs]
      simp only [lets]
      generalize rests s n 1 = q
      by_cases a : bt s 0 ≥ 97
      · rw [if_pos a]
        by_cases b : bt s 0 ≤ 122
        · rw [if_pos b]; (first | (simp; done) | (simp; omega) | (cases q <;> first | (simp; done) | (simp; omega)))
        · rw [if_neg b]; (first | (simp; done) | (simp; omega) | (cases q <;> first | (simp; done) | (simp; omega)))
      · rw [if_neg a]; (first | (simp; done) | (simp; omega) | (cases q <;> first | (simp; done) | (simp; omega)))

end Go.Proofs.Ytbphhigmepdohaa.Pure
