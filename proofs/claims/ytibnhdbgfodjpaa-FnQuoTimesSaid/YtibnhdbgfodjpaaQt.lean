/- QuoTimes, as both sides come to it. -/
import Derived.Test.YtibnhdbgfodjpaaQo
import Derived.Test.YtibnhdbgfodjpaaP0x7
namespace Go.Proofs.Ytibnhdbgfodjpaa.Pure
open Go.RowKit Go.Proofs.Ytibnhdbgfodjpaa.P0 Go.Proofs.Ytibnhdbgfodjpaa.Hand Go.Proofs.YtibnhdbgfodjpaaW.PrintWords Go.Proofs.YtibnhdbgfodjpaaW.PrintLast
theorem both_eq (k : Nat) (hk : KK + 1 ≤ k) (a b c d : Int) : spec_l1Both.f k a b c d = some (quoOk a b && quoOk c d) := by
  unfold spec_l1Both.f
  rw [sQuoValid_eq k hk, sQuoValid_eq k hk]
  cases quoOk a b <;> simp
theorem sQuoTimes_eq (k : Nat) (hk : KK + 3 ≤ k) (a b c d : Int) : spec_QuoTimes.f k a b c d = some (quoTimes a b c d) := by
  unfold spec_QuoTimes.f quoTimes
  rw [both_eq k (by omega)]
  simp only [Option.bind_some]
  by_cases h : (quoOk a b && quoOk c d) = true
  · rw [if_pos h, if_pos h]
    simp only [Bool.and_eq_true, quoOk_iff] at h
    rw [(prod_w a c (by omega) (by omega)).1, (prod_w b d (by omega) (by omega)).1, sQuoOf_eq k hk]
    rfl
  · rw [if_neg h, if_neg h]
theorem iQuoTimes_eq (k : Nat) (hk : KK + 3 ≤ k) (a b c d : Int) : impl_QuoTimes.f k a b c d = some (quoTimes a b c d) := by
  unfold impl_QuoTimes.f quoTimes
  rw [iQuoValid_eq k (by omega), iQuoValid_eq k (by omega)]
  simp only [Option.bind_some]
  by_cases h1 : quoOk a b = true
  · by_cases h2 : quoOk c d = true
    · rw [if_pos h1, if_pos h2, if_pos (by simp [h1, h2])]
      rw [quoOk_iff] at h1 h2
      rw [(prod_w a c (by omega) (by omega)).1, (prod_w b d (by omega) (by omega)).1, iQuoOf_eq k (by omega)]
      rfl
    · rw [if_pos h1, if_neg h2, if_neg (by simp [h2])]
  · rw [if_neg h1, if_neg (by simp [h1])]
end Go.Proofs.Ytibnhdbgfodjpaa.Pure
