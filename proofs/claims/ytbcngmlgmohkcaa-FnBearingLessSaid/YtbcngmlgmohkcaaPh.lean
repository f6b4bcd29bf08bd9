/- Quarters, as both sides come to them. -/
import Derived.Test.YtbcngmlgmohkcaaPs
import Derived.Test.YtbcngmlgmohkcaaP0x3
namespace Go.Proofs.Ytbcngmlgmohkcaa.Pure
open Go.RowKit Go.Proofs.Ytbcngmlgmohkcaa.P0 Go.Proofs.Ytbcngmlgmohkcaa.Hand Go.Proofs.YtbcngmlgmohkcaaW.PrintWords Go.Proofs.YtbcngmlgmohkcaaW.PrintLast
theorem quarter_eq (k : Nat) (hk : 1 ≤ k) (x y : Int) : impl_quarterOf.f k x y = some (quarter x y) := by
  obtain ⟨k, rfl⟩ : ∃ m, k = m + 1 := ⟨k - 1, by omega⟩
  unfold impl_quarterOf.f quarter
  simp only [impl_quarterOf.j0]
  by_cases h1 : 0 ≤ x <;> by_cases h2 : 0 < y <;> by_cases h3 : 0 < x <;> by_cases h4 : y < 0 <;> simp [h1, h2, h3, h4]
theorem squarter_eq (k : Nat) (hk : 1 ≤ k) (x y : Int) : spec_l3Quarter.f k x y = some (quarter x y) := by
  obtain ⟨k, rfl⟩ : ∃ m, k = m + 1 := ⟨k - 1, by omega⟩
  unfold spec_l3Quarter.f quarter
  simp only [spec_l3Quarter.j0]
  by_cases h1 : 0 ≤ x <;> by_cases h2 : 0 < y <;> by_cases h3 : 0 < x <;> by_cases h4 : y < 0 <;> simp [h1, h2, h3, h4]
def bearQuarter (x y : Int) : Int × Bool := if bear x y = true then (quarter x y, true) else (0, false)
theorem iBearingQuarter_eq (k : Nat) (hk : KK ≤ k) (x y : Int) : impl_BearingQuarter.f k x y = some (bearQuarter x y) := by
  unfold impl_BearingQuarter.f bearQuarter
  rw [iBear_eq k hk, quarter_eq k (by rw [KK_eq] at hk; omega)]
  cases bear x y <;> simp
theorem sBearingQuarter_eq (k : Nat) (hk : KK ≤ k) (x y : Int) : spec_BearingQuarter.f k x y = some (bearQuarter x y) := by
  unfold spec_BearingQuarter.f bearQuarter
  rw [sBear_eq k hk, squarter_eq k (by rw [KK_eq] at hk; omega)]
  cases bear x y <;> simp
end Go.Proofs.Ytbcngmlgmohkcaa.Pure
