/- BearingTurn, as both sides come to it. -/
import Derived.Test.YtibnhdbgfodjpaaDoorPs
import Derived.Test.YtibnhdbgfodjpaaDoorP0x8
namespace Go.Proofs.YtibnhdbgfodjpaaDoor.Pure
open Go.RowKit Go.Proofs.YtibnhdbgfodjpaaDoor.P0 Go.Proofs.YtibnhdbgfodjpaaDoor.Hand Go.Proofs.YtibnhdbgfodjpaaDoorW.PrintWords Go.Proofs.YtibnhdbgfodjpaaDoorW.PrintLast
theorem turns_eq (k : Int) (h0 : -9223372036854775808 ≤ k) (h1 : k ≤ 9223372036854775807) : Int.tmod (wrap64 ((Int.tmod k 4) + 4)) 4 = (turns k : Int) := by
  have e : Int.tmod k 4 = if 0 ≤ k then k % 4 else -((-k) % 4) := by
    by_cases h : 0 ≤ k
    · rw [if_pos h, Int.tmod_eq_emod_of_nonneg h]
    · rw [if_neg h]
      have h2 : k = -(-k) := by omega
      rw [h2, Int.neg_tmod, Int.tmod_eq_emod_of_nonneg (by omega)]
      omega
  have b : -3 ≤ Int.tmod k 4 ∧ Int.tmod k 4 ≤ 3 := by rw [e]; split <;> omega
  rw [w64 _ (by omega) (by omega), Int.tmod_eq_emod_of_nonneg (by omega), e]
  unfold turns
  split <;> omega
theorem turn_small (n : Nat) : ∀ (x y : Int), (-20000 ≤ x ∧ x ≤ 20000) → (-20000 ≤ y ∧ y ≤ 20000) → (-20000 ≤ (turnN n (x, y)).1 ∧ (turnN n (x, y)).1 ≤ 20000) ∧ (-20000 ≤ (turnN n (x, y)).2 ∧ (turnN n (x, y)).2 ≤ 20000) := by
  induction n with
  | zero => intro x y hx hy; exact ⟨hx, hy⟩
  | succ n ih => intro x y hx hy; exact ih y (-x) hy (by omega)
def bearTurn (x y k : Int) : Int × Int × Bool := if bear x y = true then ((turnN (turns k) (x, y)).1, (turnN (turns k) (x, y)).2, true) else (0, 0, false)
theorem iturn_l (t : Nat) (ht : t ≤ 3) (d : Nat) : ∀ (n : Nat) (x y : Int) (k : Nat), n + d = t → d < k → (-20000 ≤ x ∧ x ≤ 20000) → (-20000 ≤ y ∧ y ≤ 20000) →
    impl_BearingTurn.l0 k (t : Int) (n : Int) x y = some ((turnN d (x, y)).1, (turnN d (x, y)).2, true) := by
  induction d with
  | zero =>
    intro n x y k hn hk hx hy
    obtain ⟨k, rfl⟩ : ∃ m, k = m + 1 := ⟨k - 1, by omega⟩
    simp only [impl_BearingTurn.l0]
    rw [if_neg (by omega)]; rfl
  | succ d ih =>
    intro n x y k hn hk hx hy
    obtain ⟨k, rfl⟩ : ∃ m, k = m + 1 := ⟨k - 1, by omega⟩
    simp only [impl_BearingTurn.l0]
    rw [if_pos (by omega), w64 ((n : Int) + 1) (by omega) (by omega), w64 (-x) (by omega) (by omega)]
    have := ih (n + 1) y (-x) k (by omega) (by omega) hy (by omega)
    rw [show (((n + 1 : Nat)) : Int) = (n : Int) + 1 by omega] at this
    exact this
theorem iBearingTurn_eq (k : Nat) (hk : KK ≤ k) (x y j : Int) (h0 : -9223372036854775808 ≤ j) (h1 : j ≤ 9223372036854775807) : impl_BearingTurn.f k x y j = some (bearTurn x y j) := by
  have hk2 := hk
  rw [KK_eq] at hk2
  have ht : turns j ≤ 3 := by unfold turns; omega
  unfold impl_BearingTurn.f bearTurn
  rw [iBear_eq k hk]
  simp only [Option.bind_some]
  by_cases h : bear x y = true
  · have g := bear_bd h
    rw [if_pos h, if_pos h, turns_eq j h0 h1]
    exact iturn_l (turns j) ht (turns j) 0 x y k (by omega) (by omega) g.1 g.2.1
  · rw [if_neg h, if_neg h]
end Go.Proofs.YtibnhdbgfodjpaaDoor.Pure
