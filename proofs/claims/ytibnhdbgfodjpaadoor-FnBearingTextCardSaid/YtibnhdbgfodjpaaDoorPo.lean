/- BearingOf, as both sides come to it. -/
import Derived.Test.YtibnhdbgfodjpaaDoorPs
import Derived.Test.YtibnhdbgfodjpaaDoorP0x7
namespace Go.Proofs.YtibnhdbgfodjpaaDoor.Pure
open Go.RowKit Go.Proofs.YtibnhdbgfodjpaaDoor.P0 Go.Proofs.YtibnhdbgfodjpaaDoor.Hand Go.Proofs.YtibnhdbgfodjpaaDoorW.PrintWords Go.Proofs.YtibnhdbgfodjpaaDoorW.PrintLast
theorem sBearingOf_eq (k : Nat) (hk : KK + 1 ≤ k) (x y : Int) : spec_BearingOf.f k x y = some (bearOf x y) := by
  obtain ⟨k, rfl⟩ : ∃ m, k = m + 1 := ⟨k - 1, by omega⟩
  unfold spec_BearingOf.f bearOf
  rw [sStep_eq]
  simp only [Option.bind_some, spec_BearingOf.j0]
  by_cases h : (inB x 20000 && inB y 20000) = true
  · rw [if_pos h]
    by_cases h2 : (x == 0 && (y == 0)) = true
    · rw [if_pos h2, if_neg (by simp [h2])]
    · rw [if_neg h2, if_pos (by rw [h, bnot_t h2]; rfl)]
      simp only [Bool.and_eq_true, inB_iff] at h
      have hz : ¬ (x = 0 ∧ y = 0) := by simpa using h2
      rw [size_eq x (by omega) (by omega), size_eq y (by omega) (by omega)]
      simp only [Option.bind_some]
      rw [common_eq k (by omega) _ _ (by omega) (by omega) (by omega), gcdZ_abs]
      have hg := gcdZ_pos x y hz
      have b1 := tdiv_bd x (gcdZ x y)
      have b2 := tdiv_bd y (gcdZ x y)
      simp only [Option.bind_some]
      rw [if_neg (by omega), w64 _ (by omega) (by omega), w64 _ (by omega) (by omega)]
  · rw [if_neg h, if_pos trivial, if_neg (by simp only [Bool.not_eq_true] at h; simp [h])]
end Go.Proofs.YtibnhdbgfodjpaaDoor.Pure
