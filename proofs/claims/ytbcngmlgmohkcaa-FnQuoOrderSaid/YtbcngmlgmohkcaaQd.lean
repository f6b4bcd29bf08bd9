/- QuoOrder, as both sides come to it. -/
import Derived.Test.YtbcngmlgmohkcaaQt
import Derived.Test.YtbcngmlgmohkcaaP0x19
namespace Go.Proofs.Ytbcngmlgmohkcaa.Pure
open Go.RowKit Go.Proofs.Ytbcngmlgmohkcaa.P0 Go.Proofs.Ytbcngmlgmohkcaa.Hand Go.Proofs.YtbcngmlgmohkcaaW.PrintWords Go.Proofs.YtbcngmlgmohkcaaW.PrintLast
theorem sQuoOrder_eq (k : Nat) (hk : KK + 3 ≤ k) (a b c d : Int) : spec_QuoOrder.f k a b c d = some (quoOrder a b c d) := by
  unfold spec_QuoOrder.f quoOrder
  rw [both_eq k (by omega)]
  simp only [Option.bind_some]
  by_cases h : (quoOk a b && quoOk c d) = true
  · rw [if_pos h, if_pos h]
    simp only [Bool.and_eq_true, quoOk_iff] at h
    have g1 := prod_w a d (by omega) (by omega)
    have g2 := prod_w c b (by omega) (by omega)
    rw [g1.1, g2.1, w64 (a * d - c * b) (by omega) (by omega)]
    unfold spec_l1Sign.f sgn
    simp only [Option.bind_some]
    congr 2
    unfold mx mn
    (repeat' split) <;> omega
  · rw [if_neg h, if_neg h]
theorem iQuoOrder_eq (k : Nat) (hk : KK + 3 ≤ k) (a b c d : Int) : impl_QuoOrder.f k a b c d = some (quoOrder a b c d) := by
  unfold impl_QuoOrder.f quoOrder
  rw [iQuoValid_eq k (by omega), iQuoValid_eq k (by omega)]
  simp only [Option.bind_some]
  by_cases h1 : quoOk a b = true
  · by_cases h2 : quoOk c d = true
    · rw [if_pos h1, if_pos h2, if_pos (by simp [h1, h2])]
      rw [quoOk_iff] at h1 h2
      have g1 := prod_w a d (by omega) (by omega)
      have g2 := prod_w c b (by omega) (by omega)
      rw [g1.1, g2.1, w64 (a * d - c * b) (by omega) (by omega)]
      unfold impl_signInt.f sgn
      by_cases h3 : a * d - c * b < 0
      · rw [if_pos h3, if_pos h3]; rfl
      · rw [if_neg h3, if_neg h3]
        by_cases h4 : 0 < a * d - c * b
        · rw [if_pos h4, if_pos h4]; rfl
        · rw [if_neg h4, if_neg h4]; rfl
    · rw [if_pos h1, if_neg h2, if_neg (by simp [h2])]
  · rw [if_neg h1, if_neg (by simp [h1])]
end Go.Proofs.Ytbcngmlgmohkcaa.Pure
