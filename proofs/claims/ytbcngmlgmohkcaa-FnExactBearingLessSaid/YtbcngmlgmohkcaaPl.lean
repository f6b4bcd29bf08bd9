/- The order of bearings, as both sides come to it. -/
import Derived.Test.YtbcngmlgmohkcaaPh
import Derived.Test.YtbcngmlgmohkcaaP0x4
namespace Go.Proofs.Ytbcngmlgmohkcaa.Pure
open Go.RowKit Go.Proofs.Ytbcngmlgmohkcaa.P0 Go.Proofs.Ytbcngmlgmohkcaa.Hand Go.Proofs.YtbcngmlgmohkcaaW.PrintWords Go.Proofs.YtbcngmlgmohkcaaW.PrintLast
/-- BearingLess. -/
def bearLess (a b c d : Int) : Bool :=
  if (bear a b && bear c d) = true then (if quarter a b = quarter c d then decide (a * d - b * c < 0) else decide (quarter a b < quarter c d)) else false
theorem prod_s (x y : Int) (hx : -20000 ≤ x ∧ x ≤ 20000) (hy : -20000 ≤ y ∧ y ≤ 20000) : wrap64 (x * y) = x * y ∧ -400000000 ≤ x * y ∧ x * y ≤ 400000000 := by
  have h : (x * y).natAbs ≤ 20000 * 20000 := by
    rw [Int.natAbs_mul]
    exact Nat.mul_le_mul (by omega) (by omega)
  exact ⟨w64 _ (by omega) (by omega), by omega, by omega⟩
theorem scross_eq (a b c d : Int) (ha : -20000 ≤ a ∧ a ≤ 20000) (hb : -20000 ≤ b ∧ b ≤ 20000) (hc : -20000 ≤ c ∧ c ≤ 20000) (hd : -20000 ≤ d ∧ d ≤ 20000) : spec_l2Cross.f a b c d = some (a * d - b * c) := by
  unfold spec_l2Cross.f
  have g1 := prod_s a d ha hd
  have g2 := prod_s b c hb hc
  rw [g1.1, g2.1, w64 _ (by omega) (by omega)]
theorem icross_eq (a b c d : Int) (ha : -20000 ≤ a ∧ a ≤ 20000) (hb : -20000 ≤ b ∧ b ≤ 20000) (hc : -20000 ≤ c ∧ c ≤ 20000) (hd : -20000 ≤ d ∧ d ≤ 20000) : impl_pair_cross.f a b c d = some (a * d - b * c) := by
  unfold impl_pair_cross.f
  have g1 := prod_s a d ha hd
  have g2 := prod_s c b hc hb
  rw [g1.1, g2.1, w64 _ (by omega) (by omega), Int.mul_comm c b]
theorem iBearingLess_eq (k : Nat) (hk : KK + 1 ≤ k) (a b c d : Int) : impl_BearingLess.f k a b c d = some (bearLess a b c d) := by
  obtain ⟨k, rfl⟩ : ∃ m, k = m + 1 := ⟨k - 1, by omega⟩
  have hk1 : 1 ≤ k := by have := KK_eq; omega
  unfold impl_BearingLess.f bearLess
  rw [iBear_eq (k + 1) (by omega), iBear_eq (k + 1) (by omega)]
  simp only [Option.bind_some]
  by_cases h1 : bear a b = true
  · by_cases h2 : bear c d = true
    · have g1 := bear_bd h1
      have g2 := bear_bd h2
      rw [if_pos h1, if_pos (by simp [h1, h2]), h2]
      simp only [impl_BearingLess.j0, Bool.not_true, Bool.false_eq_true, if_false]
      rw [quarter_eq k hk1, quarter_eq k hk1]
      simp only [Option.bind_some]
      by_cases h3 : quarter a b = quarter c d
      · rw [if_pos h3, if_pos h3]
        unfold impl_BearingLess_2.f impl_pairOf.f
        simp only [Option.bind_some]
        rw [icross_eq a b c d g1.1 g1.2.1 g2.1 g2.2.1]; rfl
      · rw [if_neg h3, if_neg h3]
        unfold impl_BearingLess_1.f
        rw [quarter_eq k hk1, quarter_eq k hk1]; rfl
    · rw [if_pos h1, if_neg (by simp [h2])]
      simp only [Bool.not_eq_true] at h2
      rw [h2]; simp [impl_BearingLess.j0]
  · rw [if_neg h1, if_neg (by simp [h1])]
    simp [impl_BearingLess.j0]
theorem sBearingLess_eq (k : Nat) (hk : KK + 1 ≤ k) (a b c d : Int) : spec_BearingLess.f k a b c d = some (bearLess a b c d) := by
  obtain ⟨k, rfl⟩ : ∃ m, k = m + 1 := ⟨k - 1, by omega⟩
  have hk1 : 1 ≤ k := by have := KK_eq; omega
  unfold spec_BearingLess.f bearLess
  rw [sBear_eq (k + 1) (by omega), sBear_eq (k + 1) (by omega)]
  simp only [Option.bind_some]
  by_cases h1 : bear a b = true
  · by_cases h2 : bear c d = true
    · have g1 := bear_bd h1
      have g2 := bear_bd h2
      rw [if_pos h1, if_pos (by simp [h1, h2]), h2]
      simp only [spec_BearingLess.j0, Bool.not_true, Bool.false_eq_true, if_false]
      rw [squarter_eq k hk1, squarter_eq k hk1]
      simp only [Option.bind_some]
      rw [scross_eq a b c d g1.1 g1.2.1 g2.1 g2.2.1]
      by_cases h3 : quarter a b = quarter c d
      · simp [h3]
      · simp [h3]
    · rw [if_pos h1, if_neg (by simp [h2])]
      simp only [Bool.not_eq_true] at h2
      rw [h2]; simp [spec_BearingLess.j0]
  · rw [if_neg h1, if_neg (by simp [h1])]
    simp [spec_BearingLess.j0]
end Go.Proofs.Ytbcngmlgmohkcaa.Pure
