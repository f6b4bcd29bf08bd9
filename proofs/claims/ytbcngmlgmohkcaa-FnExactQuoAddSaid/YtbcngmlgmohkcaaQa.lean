/- Sums and differences of quotients, as both sides come to them. -/
import Derived.Test.YtbcngmlgmohkcaaQt
import Derived.Test.YtbcngmlgmohkcaaP0x45
namespace Go.Proofs.Ytbcngmlgmohkcaa.Pure
open Go.RowKit Go.Proofs.Ytbcngmlgmohkcaa.P0 Go.Proofs.Ytbcngmlgmohkcaa.Hand Go.Proofs.YtbcngmlgmohkcaaW.PrintWords Go.Proofs.YtbcngmlgmohkcaaW.PrintLast
theorem sQuoAdd_eq (k : Nat) (hk : KK + 3 ≤ k) (a b c d : Int) : spec_QuoAdd.f k a b c d = some (quoAdd a b c d) := by
  unfold spec_QuoAdd.f quoAdd
  rw [both_eq k (by omega)]
  simp only [Option.bind_some]
  by_cases h : (quoOk a b && quoOk c d) = true
  · rw [if_pos h, if_pos h]
    simp only [Bool.and_eq_true, quoOk_iff] at h
    have p1 := prod_w a d (by omega) (by omega)
    have p2 := prod_w c b (by omega) (by omega)
    have p3 := prod_w b d (by omega) (by omega)
    rw [p1.1, p2.1, p3.1, w64 (a * d + c * b) (by omega) (by omega), sQuoOf_eq k hk]
    rfl
  · rw [if_neg h, if_neg h]
end Go.Proofs.Ytbcngmlgmohkcaa.Pure
