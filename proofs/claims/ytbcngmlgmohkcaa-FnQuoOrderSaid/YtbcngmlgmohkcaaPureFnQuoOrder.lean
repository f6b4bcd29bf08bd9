/- The law FnQuoOrder of the printed functions: the order turns round, is 0 at equal quotients alone, and is the sign of the difference. -/
import Derived.Test.YtbcngmlgmohkcaaDqd
import Derived.Test.YtbcngmlgmohkcaaQd
import Derived.Test.YtbcngmlgmohkcaaQs
import Derived.Test.YtbcngmlgmohkcaaMc
import Derived.Test.YtbcngmlgmohkcaaP1x7
namespace Go.Proofs.Ytbcngmlgmohkcaa.Pure
open Go.RowKit Go.Proofs.Ytbcngmlgmohkcaa.P0 Go.Proofs.Ytbcngmlgmohkcaa.P1 Go.Proofs.Ytbcngmlgmohkcaa.Hand Go.Proofs.YtbcngmlgmohkcaaW.PrintWords Go.Proofs.YtbcngmlgmohkcaaW.PrintLast
theorem quoTake_spec {a b c d x y : Int} (h : quoTake a b c d = (x, y, true)) : quoOk x y = true ∧ x * (b * d) = (a * d - c * b) * y := by
  unfold quoTake at h
  split at h
  · have s := quoOf_spec h
    exact ⟨s.1, s.2.1⟩
  · simp at h
theorem sgn_cases (x : Int) : (x < 0 ∧ sgn x = -1) ∨ (x = 0 ∧ sgn x = 0) ∨ (0 < x ∧ sgn x = 1) := by
  unfold sgn
  split
  · left; exact ⟨by assumption, rfl⟩
  · split
    · right; right; exact ⟨by assumption, rfl⟩
    · right; left; exact ⟨by omega, rfl⟩
theorem sgn_neg (x : Int) : sgn (-x) = -sgn x := by
  rcases sgn_cases x with h | h | h <;> rcases sgn_cases (-x) with k | k | k <;> omega
theorem sgn_of_mul {x p q y : Int} (hp : 0 < p) (hy : 0 < y) (e : x * p = q * y) : sgn q = mx (-1) (mn 1 x) := by
  have key : sgn q = sgn x := by
    rcases sgn_cases x with h | h | h
    · have := Int.mul_neg_of_neg_of_pos h.1 hp
      rcases sgn_cases q with k | k | k
      · omega
      · rw [k.1] at e; simp at e; omega
      · have := Int.mul_pos k.1 hy; omega
    · rw [h.1] at e
      rcases sgn_cases q with k | k | k
      · have := Int.mul_neg_of_neg_of_pos k.1 hy; omega
      · omega
      · have := Int.mul_pos k.1 hy; omega
    · have := Int.mul_pos h.1 hp
      rcases sgn_cases q with k | k | k
      · have := Int.mul_neg_of_neg_of_pos k.1 hy; omega
      · rw [k.1] at e; simp at e; omega
      · omega
  rw [key]
  unfold mx mn
  rcases sgn_cases x with h | h | h <;> (repeat' split) <;> omega
theorem FnQuoOrder : ∀ (l0 : List Int), l0.length ≤ maxLen → l0.length * 1 ≤ 140737488351232 → (∀ x ∈ l0, (Lit.int .u8 x).wf = true) → ∃ k, laws_FnQuoOrder.f k l0 = some true := by
  intro l0 _ _ hw
  obtain ⟨⟨a, b, c, d⟩, hd, _⟩ := tot_DrawQuoOrder l0 (Bytes.of_wf hw)
  refine ⟨KK + 200, ?_⟩
  unfold laws_FnQuoOrder.f
  by_cases hlen : (l0.length : Int) > 1048576
  · rw [if_pos hlen]
  · have hd2 : spec_DrawQuoOrder.f (KK + 200) l0 = some (a, b, c, d) := hd _ (by omega)
    rw [if_neg hlen, hd2]
    simp only [Option.bind_some]
    rw [iQuoOrder_eq (KK + 200) (by omega), sQuoOrder_eq (KK + 200) (by omega)]
    simp only [Option.bind_some, bne_self_eq_false, Bool.false_eq_true, if_false, if_true]
    rcases h : quoOrder a b c d with ⟨o, ok⟩
    show laws_FnQuoOrder.j0 ((KK + 199) + 1) o ok o ok (!ok) a b c d = some true
    simp only [laws_FnQuoOrder.j0]
    cases ok with
    | false => simp
    | true =>
      have hv : quoOk a b = true ∧ quoOk c d = true ∧ o = sgn (a * d - c * b) := by
        unfold quoOrder at h
        split at h
        · rename_i hc
          simp only [Bool.and_eq_true] at hc
          simp only [Prod.mk.injEq, and_true] at h
          exact ⟨hc.1, hc.2, h.symm⟩
        · simp at h
      obtain ⟨h1, h2, ho⟩ := hv
      have hb : quoOrder c d a b = (-o, true) := by
        unfold quoOrder
        rw [if_pos (by simp [h1, h2]), ho, ← sgn_neg]
        congr 2
        grind
      have g1 := (quoOk_iff _ _).1 h1
      have g2 := (quoOk_iff _ _).1 h2
      have sc := sgn_cases (a * d - c * b)
      simp only [Bool.not_true, Bool.false_eq_true, if_false]
      rw [iQuoOrder_eq (KK + 199) (by omega), iQuoTake_eq (KK + 199) (by omega), hb]
      simp only [Option.bind_some, if_true]
      rw [w64 (-o) (by omega) (by omega), if_pos rfl]
      have eqv : (o == 0) = (a == c && (b == d)) := by
        rw [Bool.eq_iff_iff]
        simp only [beq_iff_eq, Bool.and_eq_true]
        constructor
        · intro z
          have z2 : a * d = c * b := by omega
          exact quoOk_unique h1 h2 z2
        · rintro ⟨rfl, rfl⟩
          rw [ho]
          rw [Int.sub_self]
          rfl
      rw [eqv]
      simp only [beq_self_eq_true, if_true]
      rcases ht : quoTake a b c d with ⟨x, y, q⟩
      cases q with
      | false => simp
      | true =>
        have s := quoTake_spec ht
        have k1 := (quoOk_iff _ _).1 s.1
        have e := sgn_of_mul (Int.mul_pos (by omega : 0 < b) (by omega : 0 < d)) (by omega : 0 < y) s.2
        simp only [if_true]
        rw [ho, e]
        simp
end Go.Proofs.Ytbcngmlgmohkcaa.Pure
