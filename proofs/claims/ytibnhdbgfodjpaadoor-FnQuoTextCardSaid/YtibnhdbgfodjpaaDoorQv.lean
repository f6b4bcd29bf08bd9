/- A valid quotient, as both sides find it. -/
import Derived.Test.YtibnhdbgfodjpaaDoorPg
import Derived.Test.YtibnhdbgfodjpaaDoorP0x4
namespace Go.Proofs.YtibnhdbgfodjpaaDoor.Pure
open Go.RowKit Go.Proofs.YtibnhdbgfodjpaaDoor.P0 Go.Proofs.YtibnhdbgfodjpaaDoor.Hand Go.Proofs.YtibnhdbgfodjpaaDoorW.PrintWords Go.Proofs.YtibnhdbgfodjpaaDoorW.PrintLast
theorem iQuoValid_eq (k : Nat) (hk : KK ≤ k) (t l : Int) : impl_QuoValid.f k t l = some (quoOk t l) := by
  unfold impl_QuoValid.f quoOk
  by_cases h1 : l < 1
  · rw [if_pos h1]; simp; omega
  · rw [if_neg h1]
    by_cases h2 : l > 1000000000
    · rw [if_pos h2]; simp; omega
    · rw [if_neg h2, within_eq t 1000000000 (by omega) (by omega)]
      simp only [Option.bind_some]
      by_cases h3 : inB t 1000000000 = true
      · have h4 := (inB_iff _ _).1 h3
        rw [if_pos h3, gcd_eq k hk t l (by omega) (by omega) (by omega) (by omega)]
        simp only [Option.bind_some, h3]
        have e1 : decide (1 ≤ l) = true := by simp; omega
        have e2 : decide (l ≤ 1000000000) = true := by simp; omega
        rw [e1, e2]; simp
      · rw [if_neg h3]; simp at h3; simp [h3]
theorem sQuoValid_eq (k : Nat) (hk : KK + 1 ≤ k) (t l : Int) : spec_QuoValid.f k t l = some (quoOk t l) := by
  obtain ⟨k, rfl⟩ : ∃ m, k = m + 1 := ⟨k - 1, by omega⟩
  unfold spec_QuoValid.f
  rw [l6In_eq, l6In_in]
  simp only [Option.bind_some, spec_QuoValid.j0]
  by_cases h1 : (decide (1 ≤ l) && decide (l ≤ 1000000000)) = true
  · rw [if_pos h1]
    have h1' : 1 ≤ l ∧ l ≤ 1000000000 := by simpa using h1
    by_cases h3 : inB t 1000000000 = true
    · have h4 := (inB_iff _ _).1 h3
      rw [if_neg (by simp [h3]), size_eq t (by omega) (by omega)]
      simp only [Option.bind_some]
      rw [common_eq k (by omega) _ _ (by omega) (by omega) (by omega)]
      have e : gcdZ (t.natAbs : Int) l = gcdZ t l := by
        have := gcdZ_abs t l
        have e2 : (l.natAbs : Int) = l := by omega
        rw [e2] at this; exact this
      rw [Option.bind_some, e]
      simp [quoOk, h3, h1'.1, h1'.2]
    · rw [if_pos (by simp at h3; simp [h3])]
      simp at h3
      simp [quoOk, h3]
  · rw [if_neg h1]
    simp only [if_true]
    simp at h1
    congr 1
    symm
    rw [quoOk_false]
    intro h; omega
end Go.Proofs.YtibnhdbgfodjpaaDoor.Pure
