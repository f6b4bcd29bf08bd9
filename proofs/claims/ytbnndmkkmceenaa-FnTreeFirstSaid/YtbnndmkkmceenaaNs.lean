/- Lists of numbers and of runs compared with themselves. -/
import Derived.Test.YtbnndmkkmceenaaNv
import Derived.Test.YtbnndmkkmceenaaP0x26
namespace Go.Proofs.Ytbnndmkkmceenaa.Pure
set_option linter.unusedVariables false
set_option linter.unusedSimpArgs false
open Go.RowKit Go.Proofs.Ytbnndmkkmceenaa.P0 Go.Proofs.YtbnndmkkmceenaaW.PrintWords Go.Proofs.YtbnndmkkmceenaaW.PrintLast
theorem sameInts_l0 (l : List Int) (hl : l.length ≤ 1000000000) : ∀ (k : Nat) (i : Int), 0 ≤ i → i ≤ l.length → l.length < k + i → laws_sameInts.l0 k l l i = some true
  | 0, i, _, h1, h2 => by omega
  | k + 1, i, h0, h1, h2 => by
    simp only [laws_sameInts.l0, if_true]
    by_cases h : i < (l.length : Int)
    · rw [if_pos h, if_pos h0, if_pos h, w64 _ (by omega) (by omega)]
      exact sameInts_l0 l hl k (i + 1) (by omega) (by omega) (by omega)
    · rw [if_neg h]
theorem sameInts_eq (l : List Int) (hl : l.length ≤ 1000000000) (k : Nat) (hk : l.length + 2 ≤ k) : laws_sameInts.f k l l = some true := by
  unfold laws_sameInts.f
  rw [if_pos rfl]
  exact sameInts_l0 l hl k 0 (by omega) (by omega) (by omega)
theorem sameRuns_l0 (l : List Rn) (hl : l.length ≤ 1000000000) : ∀ (k : Nat) (i : Int), 0 ≤ i → i ≤ l.length → l.length < k + i → laws_sameRuns.l0 k l l i = some true
  | 0, i, _, h1, h2 => by omega
  | k + 1, i, h0, h1, h2 => by
    simp only [laws_sameRuns.l0]
    by_cases h : i < (l.length : Int)
    · rw [if_pos h, if_pos h0, if_pos h, w64 _ (by omega) (by omega), if_neg (by simp)]
      exact sameRuns_l0 l hl k (i + 1) (by omega) (by omega) (by omega)
    · rw [if_neg h]
theorem sameRuns_eq (l : List Rn) (hl : l.length ≤ 1000000000) (k : Nat) (hk : l.length + 2 ≤ k) : laws_sameRuns.f k l l = some true := by
  unfold laws_sameRuns.f
  rw [if_pos rfl]
  exact sameRuns_l0 l hl k 0 (by omega) (by omega) (by omega)
end Go.Proofs.Ytbnndmkkmceenaa.Pure
