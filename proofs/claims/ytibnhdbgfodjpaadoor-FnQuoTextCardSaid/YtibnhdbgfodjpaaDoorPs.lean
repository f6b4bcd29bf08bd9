/- Steps and bearings, as both sides find them. -/
import Derived.Test.YtibnhdbgfodjpaaDoorPg
import Derived.Test.YtibnhdbgfodjpaaDoorP0x7
namespace Go.Proofs.YtibnhdbgfodjpaaDoor.Pure
open Go.RowKit Go.Proofs.YtibnhdbgfodjpaaDoor.P0 Go.Proofs.YtibnhdbgfodjpaaDoor.Hand Go.Proofs.YtibnhdbgfodjpaaDoorW.PrintWords Go.Proofs.YtibnhdbgfodjpaaDoorW.PrintLast
theorem inRange_eq (x y m : Int) (h0 : 0 ≤ m) (h1 : m ≤ 9000000000000000000) : impl_pair_inRange.f x y m = some (inB x m && inB y m) := by
  unfold impl_pair_inRange.f
  rw [within_eq x m h0 h1, within_eq y m h0 h1]
  cases inB x m <;> simp
theorem iStep_eq (x y : Int) : impl_stepValid.f x y = some (inB x 20000 && inB y 20000) := by
  unfold impl_stepValid.f impl_pairOf.f
  simp only [Option.bind_some]
  rw [inRange_eq _ _ _ (by omega) (by omega)]; rfl
theorem sStep_eq (x y : Int) : spec_l2StepOk.f x y = some (inB x 20000 && inB y 20000) := by
  unfold spec_l2StepOk.f
  rw [l6In_in, l6In_in]
  cases inB x 20000 <;> simp
theorem sBear_eq (k : Nat) (hk : KK ≤ k) (x y : Int) : spec_l3Bearing.f k x y = some (bear x y) := by
  unfold spec_l3Bearing.f bear
  rw [sStep_eq]
  simp only [Option.bind_some]
  by_cases h : (inB x 20000 && inB y 20000) = true
  · rw [if_pos h, h]
    simp only [Bool.and_eq_true, inB_iff] at h
    rw [size_eq x (by omega) (by omega), size_eq y (by omega) (by omega)]
    simp only [Option.bind_some]
    rw [common_eq k hk _ _ (by omega) (by omega) (by omega), gcdZ_abs]
    simp
  · rw [if_neg h]; simp only [Bool.not_eq_true] at h; rw [h]; rfl
theorem pgcd_eq (k : Nat) (hk : KK ≤ k) (x y : Int) (h0 : -9000000000000000000 ≤ x) (h1 : x ≤ 9000000000000000000) (h2 : -9000000000000000000 ≤ y) (h3 : y ≤ 9000000000000000000) : impl_pair_gcd.f k x y = some (gcdZ x y) := by
  unfold impl_pair_gcd.f
  rw [gcd_eq k hk x y h0 h1 h2 h3]; rfl
theorem iBear_eq (k : Nat) (hk : KK ≤ k) (x y : Int) : impl_isBearing.f k x y = some (bear x y) := by
  unfold impl_isBearing.f bear impl_pairOf.f
  rw [iStep_eq]
  simp only [Option.bind_some]
  by_cases h : (inB x 20000 && inB y 20000) = true
  · rw [if_pos h, h]
    simp only [Bool.and_eq_true, inB_iff] at h
    rw [pgcd_eq k hk x y (by omega) (by omega) (by omega) (by omega)]
    simp
  · rw [if_neg h]; simp only [Bool.not_eq_true] at h; rw [h]; rfl
theorem bear_bd {x y : Int} (h : bear x y = true) : (-20000 ≤ x ∧ x ≤ 20000) ∧ (-20000 ≤ y ∧ y ≤ 20000) ∧ gcdZ x y = 1 := by
  simp only [bear, Bool.and_eq_true, inB_iff, beq_iff_eq] at h
  exact ⟨h.1.1, h.1.2, h.2⟩
end Go.Proofs.YtibnhdbgfodjpaaDoor.Pure
