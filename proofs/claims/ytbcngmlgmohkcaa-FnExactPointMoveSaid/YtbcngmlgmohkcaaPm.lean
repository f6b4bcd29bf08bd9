/- PointMove, as both sides come to it. -/
import Derived.Test.YtbcngmlgmohkcaaPp
import Derived.Test.YtbcngmlgmohkcaaP0x14
import Derived.Test.YtbcngmlgmohkcaaP0x13
namespace Go.Proofs.Ytbcngmlgmohkcaa.Pure
open Go.RowKit Go.Proofs.Ytbcngmlgmohkcaa.P0 Go.Proofs.Ytbcngmlgmohkcaa.Hand Go.Proofs.YtbcngmlgmohkcaaW.PrintWords Go.Proofs.YtbcngmlgmohkcaaW.PrintLast
/-- PointMove. -/
def pointMove (a b c d : Int) : Int × Int × Bool :=
  if ((inB a 10000 && inB b 10000) && (inB c 20000 && inB d 20000)) = true then
    (if (inB (a + c) 10000 && inB (b + d) 10000) = true then (a + c, b + d, true) else (0, 0, false)) else (0, 0, false)
theorem sPointMove_eq (k : Nat) (hk : 1 ≤ k) (a b c d : Int) : spec_PointMove.f k a b c d = some (pointMove a b c d) := by
  obtain ⟨k, rfl⟩ : ∃ m, k = m + 1 := ⟨k - 1, by omega⟩
  unfold spec_PointMove.f pointMove
  rw [sPointValid_eq, sStep_eq]
  simp only [Option.bind_some, spec_PointMove.j0]
  by_cases h1 : (inB a 10000 && inB b 10000) = true
  · by_cases h2 : (inB c 20000 && inB d 20000) = true
    · rw [if_pos h1, if_neg (by simp [h2]), if_pos (by simp [h1, h2])]
      simp only [Bool.and_eq_true, inB_iff] at h1 h2
      rw [w64 (a + c) (by omega) (by omega), w64 (b + d) (by omega) (by omega), sPointValid_eq]
      simp only [Option.bind_some]
      by_cases h3 : (inB (a + c) 10000 && inB (b + d) 10000) = true
      · rw [if_pos h3, if_pos h3]
      · rw [if_neg h3, if_neg h3]
    · rw [if_pos h1, if_pos (bnot_t h2), if_neg (by simp [h2])]
  · rw [if_neg h1, if_pos trivial, if_neg (by simp [h1])]
theorem iPointMove_eq (k : Nat) (hk : 1 ≤ k) (a b c d : Int) : impl_PointMove.f k a b c d = some (pointMove a b c d) := by
  obtain ⟨k, rfl⟩ : ∃ m, k = m + 1 := ⟨k - 1, by omega⟩
  unfold impl_PointMove.f pointMove
  rw [iPointValid_eq, iStep_eq]
  simp only [Option.bind_some, impl_PointMove.j0, impl_pairOf.f, impl_pair_plus.f, impl_pair_point.f]
  by_cases h1 : (inB a 10000 && inB b 10000) = true
  · by_cases h2 : (inB c 20000 && inB d 20000) = true
    · rw [if_pos h1, if_neg (by simp [h2]), if_pos (by simp [h1, h2])]
      simp only [Bool.and_eq_true, inB_iff] at h1 h2
      rw [w64 (a + c) (by omega) (by omega), w64 (b + d) (by omega) (by omega), iPointValid_eq]
      simp only [Option.bind_some]
      by_cases h3 : (inB (a + c) 10000 && inB (b + d) 10000) = true
      · rw [if_pos h3, if_pos h3]
      · rw [if_neg h3, if_neg h3]
    · rw [if_pos h1, if_pos (bnot_t h2), if_neg (by simp [h2])]
  · rw [if_neg h1, if_pos trivial, if_neg (by simp [h1])]
end Go.Proofs.Ytbcngmlgmohkcaa.Pure
