/- Ranges and greatest common divisors, as the printed functions come to them. -/
import Derived.Test.YtibnhdbgfodjpaaDoorMb
import Derived.Test.YtibnhdbgfodjpaaDoorP0x4
namespace Go.Proofs.YtibnhdbgfodjpaaDoor.Pure
open Go.RowKit Go.Proofs.YtibnhdbgfodjpaaDoor.P0 Go.Proofs.YtibnhdbgfodjpaaDoor.Hand Go.Proofs.YtibnhdbgfodjpaaDoorW.PrintWords Go.Proofs.YtibnhdbgfodjpaaDoorW.PrintLast
theorem w64 (x : Int) (h0 : -9223372036854775808 ≤ x) (h1 : x ≤ 9223372036854775807) : wrap64 x = x := by unfold wrap64; omega
theorem bnot_t {b : Bool} (h : ¬ b = true) : (!b) = true := by cases b <;> simp_all
theorem KK_eq : KK = 10000000000000000000 := rfl
theorem within_eq (a m : Int) (h0 : 0 ≤ m) (h1 : m ≤ 9000000000000000000) : impl_within.f a m = some (inB a m) := by
  unfold impl_within.f inB
  rw [w64 (-m) (by omega) (by omega)]
  by_cases h : -m ≤ a <;> simp [h]
theorem l6In_eq (a l h : Int) : spec_l6In.f a l h = some (decide (l ≤ a) && decide (a ≤ h)) := by
  unfold spec_l6In.f
  by_cases c : l ≤ a <;> simp [c]
theorem l6In_in (a m : Int) : spec_l6In.f a (-m) m = some (inB a m) := l6In_eq a (-m) m
theorem size_eq (a : Int) (h0 : -9000000000000000000 ≤ a) (h1 : a ≤ 9000000000000000000) : spec_l1Size.f a = some (a.natAbs : Int) := by
  unfold spec_l1Size.f
  rw [w64 (-a) (by omega) (by omega)]
  congr 1
  unfold mx
  split <;> omega
theorem abs_eq (a : Int) (h0 : -9000000000000000000 ≤ a) (h1 : a ≤ 9000000000000000000) : impl_absInt.f a = some (a.natAbs : Int) := by
  unfold impl_absInt.f
  by_cases h : a < 0
  · rw [if_pos h, w64 (-a) (by omega) (by omega)]; congr 1; omega
  · rw [if_neg h]; congr 1; omega
theorem common_l (n : Nat) : ∀ (x y : Int) (k : Nat), 0 ≤ x → 0 ≤ y → y.toNat < n → n ≤ k → spec_l1Common.l0 k x y = some (gcdZ x y) := by
  induction n with
  | zero => intro x y k _ _ h; omega
  | succ n ih =>
    intro x y k hx hy h hk
    obtain ⟨k, rfl⟩ : ∃ m, k = m + 1 := ⟨k - 1, by omega⟩
    simp only [spec_l1Common.l0]
    by_cases h0 : y = 0
    · rw [if_pos h0, h0, gcdZ_zero x hx]
    · rw [if_neg h0, tmod_pos x y hx]
      have h1 := Int.emod_nonneg x h0
      have h2 := Int.emod_lt_of_pos x (by omega : 0 < y)
      rw [ih y (x % y) k hy h1 (by omega) (by omega), gcdZ_step]
theorem gcd_l (n : Nat) : ∀ (x y : Int) (k : Nat), 0 ≤ x → 0 ≤ y → y.toNat < n → n ≤ k → impl_gcdInt.l0 k x y = some (gcdZ x y) := by
  induction n with
  | zero => intro x y k _ _ h; omega
  | succ n ih =>
    intro x y k hx hy h hk
    obtain ⟨k, rfl⟩ : ∃ m, k = m + 1 := ⟨k - 1, by omega⟩
    simp only [impl_gcdInt.l0]
    by_cases h0 : y = 0
    · rw [if_pos h0, h0, gcdZ_zero x hx]
    · rw [if_neg h0, tmod_pos x y hx]
      have h1 := Int.emod_nonneg x h0
      have h2 := Int.emod_lt_of_pos x (by omega : 0 < y)
      rw [ih y (x % y) k hy h1 (by omega) (by omega), gcdZ_step]
theorem common_eq (k : Nat) (hk : KK ≤ k) (x y : Int) (hx : 0 ≤ x) (hy : 0 ≤ y) (h : y ≤ 9000000000000000000) : spec_l1Common.f k x y = some (gcdZ x y) := by
  rw [KK_eq] at hk
  exact common_l (y.toNat + 1) x y k hx hy (by omega) (by omega)
theorem gcd_eq (k : Nat) (hk : KK ≤ k) (x y : Int) (h0 : -9000000000000000000 ≤ x) (h1 : x ≤ 9000000000000000000) (h2 : -9000000000000000000 ≤ y) (h3 : y ≤ 9000000000000000000) : impl_gcdInt.f k x y = some (gcdZ x y) := by
  rw [KK_eq] at hk
  unfold impl_gcdInt.f
  rw [abs_eq x h0 h1, abs_eq y h2 h3]
  simp only [Option.bind_some]
  rw [gcd_l ((y.natAbs : Int).toNat + 1) _ _ k (by omega) (by omega) (by omega) (by omega), gcdZ_abs]
theorem mul_bd (x y m n : Int) (hx : -m ≤ x ∧ x ≤ m) (hy : -n ≤ y ∧ y ≤ n) : -(m * n) ≤ x * y ∧ x * y ≤ m * n := by
  have h : (x * y).natAbs ≤ (m * n).natAbs := by
    rw [Int.natAbs_mul, Int.natAbs_mul]
    exact Nat.mul_le_mul (by omega) (by omega)
  have h2 : 0 ≤ m * n := Int.mul_nonneg (by omega) (by omega)
  omega
theorem prod_w (x y : Int) (hx : -1000000000 ≤ x ∧ x ≤ 1000000000) (hy : -1000000000 ≤ y ∧ y ≤ 1000000000) : wrap64 (x * y) = x * y ∧ -1000000000000000000 ≤ x * y ∧ x * y ≤ 1000000000000000000 := by
  have h := mul_bd x y 1000000000 1000000000 hx hy
  have e : (1000000000 : Int) * 1000000000 = 1000000000000000000 := by decide
  rw [e] at h
  exact ⟨w64 _ (by omega) (by omega), h⟩
end Go.Proofs.YtibnhdbgfodjpaaDoor.Pure
