/- QuoOf, as both sides come to it. -/
import Derived.Test.YtibnhdbgfodjpaaDoorP0x6
import Derived.Test.YtibnhdbgfodjpaaDoorQv
import Derived.Test.YtibnhdbgfodjpaaDoorP0x5
namespace Go.Proofs.YtibnhdbgfodjpaaDoor.Pure
open Go.RowKit Go.Proofs.YtibnhdbgfodjpaaDoor.P0 Go.Proofs.YtibnhdbgfodjpaaDoor.Hand Go.Proofs.YtibnhdbgfodjpaaDoorW.PrintWords Go.Proofs.YtibnhdbgfodjpaaDoorW.PrintLast
theorem iQuoOf_eq (k : Nat) (hk : KK + 2 ≤ k) (a b : Int) : impl_QuoOf.f k a b = some (quoOf a b) := by
  obtain ⟨k, rfl⟩ : ∃ m, k = m + 2 := ⟨k - 2, by omega⟩
  have red : ∀ x y : Int, -4000000000000000000 ≤ x → x ≤ 4000000000000000000 → 1 ≤ y → y ≤ 4000000000000000000 → impl_QuoOf.j1 (k + 1) x y = some (quoRed x y) := by
    intro x y h0 h1 h2 h3
    simp only [impl_QuoOf.j1]
    rw [gcd_eq k (by omega) x y (by omega) (by omega) (by omega) (by omega)]
    simp only [Option.bind_some]
    have hg := gcdZ_pos x y (by omega)
    rw [if_neg (by omega)]
    have b1 : wrap64 (x.tdiv (gcdZ x y)) = x.tdiv (gcdZ x y) := by
      have := tdiv_bd x (gcdZ x y)
      exact w64 _ (by omega) (by omega)
    have b2 : wrap64 (y.tdiv (gcdZ x y)) = y.tdiv (gcdZ x y) := by
      have := tdiv_bd y (gcdZ x y)
      exact w64 _ (by omega) (by omega)
    rw [b1, b2, iQuoValid_eq k (by omega)]
    simp only [Option.bind_some]
    unfold quoRed
    by_cases h : quoOk (x.tdiv (gcdZ x y)) (y.tdiv (gcdZ x y)) = true <;> simp [h]
  have jn : impl_QuoOf.j0 (k + 2) a b true = some (0, 0, false) := by simp [impl_QuoOf.j0]
  unfold impl_QuoOf.f quoOf
  by_cases h0 : b = 0
  · rw [if_pos h0, jn, if_pos (by simp [h0])]
  · rw [if_neg h0, within_eq a _ (by omega) (by omega)]
    simp only [Option.bind_some]
    by_cases h1 : inB a 4000000000000000000 = true
    · rw [if_pos h1, within_eq b _ (by omega) (by omega)]
      simp only [Option.bind_some]
      by_cases h2 : inB b 4000000000000000000 = true
      · have g1 := (inB_iff _ _).1 h1
        have g2 := (inB_iff _ _).1 h2
        rw [if_neg (by simp [h0, h1, h2]), h2]
        simp only [impl_QuoOf.j0, Bool.not_true, Bool.false_eq_true, if_false]
        by_cases h3 : b < 0
        · rw [if_pos h3, if_pos h3, w64 (-a) (by omega) (by omega), w64 (-b) (by omega) (by omega)]
          exact red _ _ (by omega) (by omega) (by omega) (by omega)
        · rw [if_neg h3, if_neg h3]
          exact red _ _ (by omega) (by omega) (by omega) (by omega)
      · simp at h2
        rw [h2, Bool.not_false, jn, if_pos (by simp)]
    · simp at h1
      rw [if_neg (by simp [h1]), jn, if_pos (by simp [h1])]
theorem sQuoOf_eq (k : Nat) (hk : KK + 3 ≤ k) (a b : Int) : spec_QuoOf.f k a b = some (quoOf a b) := by
  obtain ⟨k, rfl⟩ : ∃ m, k = m + 3 := ⟨k - 3, by omega⟩
  have red : ∀ x y : Int, -4000000000000000000 ≤ x → x ≤ 4000000000000000000 → 1 ≤ y → y ≤ 4000000000000000000 → spec_QuoOf.j1 (k + 2) x y = some (quoRed x y) := by
    intro x y h0 h1 h2 h3
    simp only [spec_QuoOf.j1]
    rw [size_eq x (by omega) (by omega)]
    simp only [Option.bind_some]
    rw [common_eq (k + 1) (by omega) _ y (by omega) (by omega) (by omega)]
    have e : gcdZ (x.natAbs : Int) y = gcdZ x y := by
      have := gcdZ_abs x y
      have e2 : (y.natAbs : Int) = y := by omega
      rw [e2] at this; exact this
    rw [Option.bind_some, e]
    have hg := gcdZ_pos x y (by omega)
    rw [if_neg (by omega)]
    have b1 : wrap64 (x.tdiv (gcdZ x y)) = x.tdiv (gcdZ x y) := by
      have := tdiv_bd x (gcdZ x y)
      exact w64 _ (by omega) (by omega)
    have b2 : wrap64 (y.tdiv (gcdZ x y)) = y.tdiv (gcdZ x y) := by
      have := tdiv_bd y (gcdZ x y)
      exact w64 _ (by omega) (by omega)
    rw [b1, b2, sQuoValid_eq (k + 1) (by omega)]
    simp only [Option.bind_some]
    unfold quoRed
    by_cases h : quoOk (x.tdiv (gcdZ x y)) (y.tdiv (gcdZ x y)) = true <;> simp [h]
  have jn : spec_QuoOf.j0 (k + 3) a b true = some (0, 0, false) := by simp [spec_QuoOf.j0]
  unfold spec_QuoOf.f quoOf
  rw [l6In_in, l6In_in]
  simp only [Option.bind_some]
  by_cases h1 : inB a 4000000000000000000 = true
  · rw [if_pos h1]
    by_cases h2 : inB b 4000000000000000000 = true
    · rw [if_pos h2]
      by_cases h0 : b = 0
      · rw [show (b == 0) = true by simp [h0], jn, if_pos (by simp)]
      · have g1 := (inB_iff _ _).1 h1
        have g2 := (inB_iff _ _).1 h2
        rw [show (b == 0) = false by simp [h0], if_neg (by simp [h1, h2])]
        simp only [spec_QuoOf.j0, Bool.false_eq_true, if_false]
        by_cases h3 : b < 0
        · rw [if_pos h3, if_pos h3, w64 (-a) (by omega) (by omega), w64 (-b) (by omega) (by omega)]
          exact red _ _ (by omega) (by omega) (by omega) (by omega)
        · rw [if_neg h3, if_neg h3]
          exact red _ _ (by omega) (by omega) (by omega) (by omega)
    · simp at h2
      rw [if_neg (by simp [h2]), jn, if_pos (by simp [h2])]
  · simp at h1
    rw [if_neg (by simp [h1]), jn, if_pos (by simp [h1])]
end Go.Proofs.YtibnhdbgfodjpaaDoor.Pure
