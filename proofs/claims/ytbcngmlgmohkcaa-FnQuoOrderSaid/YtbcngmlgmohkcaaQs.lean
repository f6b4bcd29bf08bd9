/- Differences of quotients, as both sides come to them. -/
import Derived.Test.YtbcngmlgmohkcaaHq
import Derived.Test.YtbcngmlgmohkcaaQt
import Derived.Test.YtbcngmlgmohkcaaP0x46
import Derived.Test.YtbcngmlgmohkcaaP1x3
namespace Go.Proofs.Ytbcngmlgmohkcaa.Pure
open Go.RowKit Go.Proofs.Ytbcngmlgmohkcaa.P0 Go.Proofs.Ytbcngmlgmohkcaa.P1 Go.Proofs.Ytbcngmlgmohkcaa.Hand Go.Proofs.YtbcngmlgmohkcaaW.PrintWords Go.Proofs.YtbcngmlgmohkcaaW.PrintLast
theorem sQuoTake_eq (k : Nat) (hk : KK + 3 ≤ k) (a b c d : Int) : spec_QuoTake.f k a b c d = some (quoTake a b c d) := by
  unfold spec_QuoTake.f quoTake
  rw [both_eq k (by omega)]
  simp only [Option.bind_some]
  by_cases h : (quoOk a b && quoOk c d) = true
  · rw [if_pos h, if_pos h]
    simp only [Bool.and_eq_true, quoOk_iff] at h
    have p1 := prod_w a d (by omega) (by omega)
    have p2 := prod_w c b (by omega) (by omega)
    have p3 := prod_w b d (by omega) (by omega)
    rw [p1.1, p2.1, p3.1, w64 (a * d - c * b) (by omega) (by omega), sQuoOf_eq k hk]
    rfl
  · rw [if_neg h, if_neg h]
theorem quoOk_neg (a b : Int) : quoOk (-a) b = quoOk a b := by
  rw [Bool.eq_iff_iff, quoOk_iff, quoOk_iff]
  have e : gcdZ (-a) b = gcdZ a b := by unfold gcdZ; simp
  rw [e]; omega
theorem iQuoTake_eq (k : Nat) (hk : KK + 3 ≤ k) (a b c d : Int) : impl_QuoTake.f k a b c d = some (quoTake a b c d) := by
  unfold impl_QuoTake.f quoTake
  rw [iQuoValid_eq k (by omega)]
  simp only [Option.bind_some]
  by_cases h2 : quoOk c d = true
  · have h3 := (quoOk_iff _ _).1 h2
    rw [if_pos h2, w64 (-c) (by omega) (by omega)]
    unfold impl_QuoAdd.f quoAdd
    rw [quoOk_neg]
    simp only [Option.bind_some]
    have e : a * d + -c * b = a * d - c * b := by grind
    rw [e]
  · rw [if_neg h2, if_neg (by simp [h2])]
end Go.Proofs.Ytbcngmlgmohkcaa.Pure
