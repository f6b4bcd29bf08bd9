/- spec's decimal text is the library's. -/
import Derived.Test.YtibnhdbgfodjpaaDoorT0
import Derived.Test.YtibnhdbgfodjpaaDoorP0x2
namespace Go.Proofs.YtibnhdbgfodjpaaDoor.Pure
set_option linter.unusedSimpArgs false
set_option linter.unusedVariables false
open Go.RowKit Go.Proofs.YtibnhdbgfodjpaaDoor.P0 Go.Proofs.YtibnhdbgfodjpaaDoor.Hand Go.Proofs.YtibnhdbgfodjpaaDoorW.PrintWords Go.Proofs.YtibnhdbgfodjpaaDoorW.PrintLast
def ba (l : List UInt8) : ByteArray := ⟨l.toArray⟩
theorem ba_app (a b : List UInt8) : ba a ++ ba b = ba (a ++ b) := by
  unfold ba
  apply ByteArray.ext
  simp
theorem ba_size (a : List UInt8) : (ba a).size = a.length := by
  show a.toArray.size = _
  simp
theorem dec_len (u : Nat) (h : u ≤ 9223372036854775807) : (Lib.decDigits u).length ≤ 21 := by
  have := Lib.itoa_length_le (u : Int) (by omega) (by omega)
  rwa [Lib.itoa_nonneg] at this
theorem byte_of (d : Nat) (h : d < 10) : strOfNums [wrap64 (48 + (d : Int)) % 256] = ba [UInt8.ofNat (48 + d)] := by
  have e : wrap64 (48 + (d : Int)) % 256 = ((48 + d : Nat) : Int) := by
    unfold wrap64
    omega
  rw [e]
  rfl
theorem p20 {u : Nat} (h : u ≤ 9223372036854775807) : u < 10 ^ 20 := by
  have : (10 : Nat) ^ 20 = 100000000000000000000 := by decide
  omega
theorem dec_nat : ∀ (m u k : Nat), u < 10 ^ m → u ≤ 9223372036854775807 → m + 1 ≤ k → spec_l6Dec.f k (u : Int) = some (ba (Lib.decDigits u)) := by
  intro m
  induction m with
  | zero =>
    intro u k h h2 hk
    obtain ⟨k, rfl⟩ : ∃ j, k = j + 1 := ⟨k - 1, by omega⟩
    have e : u = 0 := by simpa using h
    subst e
    simp only [spec_l6Dec.f]
    rw [if_neg (by omega), if_neg (by omega), if_pos (by omega), byte_of 0 (by omega), Lib.decDigits_one (by omega)]
  | succ m ih =>
    intro u k h h2 hk
    obtain ⟨k, rfl⟩ : ∃ j, k = j + 1 := ⟨k - 1, by omega⟩
    simp only [spec_l6Dec.f]
    rw [if_neg (by omega), if_neg (by omega)]
    by_cases c : u < 10
    · rw [if_pos (by omega), byte_of u c, Lib.decDigits_one c]
    · have e1 : wrap64 (Int.tdiv (u : Int) 10) = ((u / 10 : Nat) : Int) := by
        rw [Int.tdiv_eq_ediv_of_nonneg (by omega)]
        unfold wrap64
        omega
      have e2 : Int.tmod (u : Int) 10 = ((u % 10 : Nat) : Int) := by
        rw [Int.tmod_eq_emod_of_nonneg (by omega)]
        omega
      have hp : u / 10 < 10 ^ m := by
        rw [Nat.pow_succ] at h
        omega
      have hl := dec_len (u / 10) (by omega)
      rw [if_neg (by omega), e1, e2, ih (u / 10) k hp (by omega) (by omega)]
      simp only [Option.bind_some]
      rw [byte_of (u % 10) (by omega), ba_size, ba_size, if_pos (by simp; omega), ba_app]
      conv => rhs; rw [Lib.decDigits, dif_neg c]
theorem dec_eq (n : Int) (k : Nat) (h0 : -9000000000000000000 ≤ n) (h1 : n ≤ 9000000000000000000) (hk : 30 ≤ k) : spec_l6Dec.f k n = some (it n) := by
  by_cases c : n < 0
  · obtain ⟨u, rfl⟩ : ∃ u : Nat, n = -(u : Int) := ⟨n.natAbs, by omega⟩
    obtain ⟨k, rfl⟩ : ∃ j, k = j + 1 := ⟨k - 1, by omega⟩
    have e : wrap64 (- -(u : Int)) = (u : Int) := by
      unfold wrap64
      omega
    have hl := dec_len u (by omega)
    simp only [spec_l6Dec.f]
    rw [if_neg (by omega), if_pos c, e, dec_nat 20 u k (p20 (by omega)) (by omega) (by omega), Option.bind_some, ba_size, if_pos (by omega)]
    unfold it
    rw [Lib.itoa_neg u (by omega)]
    show some (ba [45] ++ ba (Lib.decDigits u)) = some (ba (45 :: Lib.decDigits u))
    rw [ba_app]
    rfl
  · obtain ⟨u, rfl⟩ : ∃ u : Nat, n = (u : Int) := ⟨n.toNat, by omega⟩
    rw [dec_nat 20 u k (p20 (by omega)) (by omega) (by omega)]
    unfold it
    rw [Lib.itoa_nonneg]
    rfl
end Go.Proofs.YtibnhdbgfodjpaaDoor.Pure
