import Derived.Test.YtibnhdbgfodjpaaDoorMc
/- Bearings: reduced steps, quarter turns, the order round the compass. -/
namespace Go.Proofs.YtibnhdbgfodjpaaDoor.Hand
theorem gcdZ_comm (a b : Int) : gcdZ a b = gcdZ b a := by unfold gcdZ; rw [Int.gcd_comm]
theorem gcdZ_neg_left (a b : Int) : gcdZ (-a) b = gcdZ a b := by unfold gcdZ; simp
theorem gcdZ_neg_right (a b : Int) : gcdZ a (-b) = gcdZ a b := by unfold gcdZ; simp
theorem neg_tdiv' (a b : Int) : (-a).tdiv b = -(a.tdiv b) := Int.neg_tdiv a b
theorem inB_le {a b m : Int} (h : inB a m = true) (h2 : b.natAbs ≤ a.natAbs) : inB b m = true := by
  rw [inB_iff] at *; omega
/-- What BearingOf answers: the step is a multiple of it. -/
theorem bearOf_spec {x y u v : Int} (h : bearOf x y = (u, v, true)) :
    bear u v = true ∧ ∃ g, 1 ≤ g ∧ x = u * g ∧ y = v * g ∧ g = gcdZ x y ∧ inB x 20000 = true ∧ inB y 20000 = true ∧ ¬ (u = 0 ∧ v = 0) := by
  unfold bearOf at h
  split at h
  · rename_i hc
    simp only [Bool.and_eq_true, Bool.not_eq_true', Bool.and_eq_false_iff, beq_eq_false_iff_ne] at hc
    have hz : ¬ (x = 0 ∧ y = 0) := by omega
    simp only [Prod.mk.injEq, and_true] at h
    have hg := gcdZ_pos x y hz
    have e1 := tdiv_exact (gcdZ_dvd_left x y)
    have e2 := tdiv_exact (gcdZ_dvd_right x y)
    have b1 := tdiv_bd x (gcdZ x y)
    have b2 := tdiv_bd y (gcdZ x y)
    have cop : gcdZ (x.tdiv (gcdZ x y)) (y.tdiv (gcdZ x y)) = 1 := by
      by_cases hy : 0 < y
      · exact (red_cop x y hy).1
      · by_cases hy2 : y < 0
        · have := (red_cop x (-y) (by omega)).1
          rw [gcdZ_neg_right, neg_tdiv', gcdZ_neg_right] at this
          exact this
        · have hy0 : y = 0 := by omega
          subst hy0
          have hx : x ≠ 0 := by omega
          by_cases hx1 : 0 < x
          · have := (red_cop 0 x hx1).1
            rw [gcdZ_comm 0 x, gcdZ_comm] at this
            exact this
          · have := (red_cop 0 (-x) (by omega)).1
            rw [gcdZ_comm 0 (-x), gcdZ_neg_left, neg_tdiv', gcdZ_neg_right, gcdZ_comm] at this
            exact this
    obtain ⟨rfl, rfl⟩ := h
    refine ⟨?_, gcdZ x y, hg, e1.symm, e2.symm, rfl, hc.1.1, hc.1.2, ?_⟩
    · unfold bear
      rw [cop, inB_le hc.1.1 (by omega), inB_le hc.1.2 (by omega)]; rfl
    · rintro ⟨z1, z2⟩
      rw [z1] at e1
      rw [z2] at e2
      simp at e1 e2
      omega
  · simp at h
theorem bear_nz {u v : Int} (h : bear u v = true) : ¬ (u = 0 ∧ v = 0) := by
  rintro ⟨rfl, rfl⟩
  simp [bear, gcdZ] at h
theorem bearOf_bear {u v : Int} (h : bear u v = true) : bearOf u v = (u, v, true) := by
  have hz := bear_nz h
  simp only [bear, Bool.and_eq_true, beq_iff_eq] at h
  unfold bearOf
  rw [h.2, h.1.1, h.1.2, if_pos (by simp; omega), Int.tdiv_one, Int.tdiv_one]
theorem bearOf_neg {x y u v : Int} (h : bearOf x y = (u, v, true)) : bearOf (-x) (-y) = (-u, -v, true) := by
  unfold bearOf at *
  have i1 : ∀ a : Int, inB (-a) 20000 = inB a 20000 := fun a => by
    rw [Bool.eq_iff_iff, inB_iff, inB_iff]; omega
  have i2 : (-x == 0 && -y == 0) = (x == 0 && y == 0) := by
    rw [Bool.eq_iff_iff]; simp
  rw [i1, i1, i2, gcdZ_neg_left, gcdZ_neg_right, neg_tdiv', neg_tdiv']
  split at h
  · rename_i hc
    rw [if_pos hc]
    simp only [Prod.mk.injEq, and_true] at h
    rw [h.1, h.2]
  · simp at h
theorem bear_neg {u v : Int} (h : bear u v = true) : bear (-u) (-v) = true := by
  have i1 : ∀ a : Int, inB (-a) 20000 = inB a 20000 := fun a => by
    rw [Bool.eq_iff_iff, inB_iff, inB_iff]; omega
  unfold bear at *
  rw [i1, i1, gcdZ_neg_left, gcdZ_neg_right]; exact h
theorem bear_turn {u v : Int} (h : bear u v = true) : bear v (-u) = true := by
  have i1 : ∀ a : Int, inB (-a) 20000 = inB a 20000 := fun a => by
    rw [Bool.eq_iff_iff, inB_iff, inB_iff]; omega
  unfold bear at *
  rw [i1, gcdZ_neg_right, gcdZ_comm v u, Bool.and_comm (inB v 20000)]; exact h
theorem bear_turnN {u v : Int} (n : Nat) (h : bear u v = true) : bear (turnN n (u, v)).1 (turnN n (u, v)).2 = true := by
  induction n generalizing u v with
  | zero => exact h
  | succ n ih => exact ih (bear_turn h)
theorem quarter_turn {u v : Int} (h : ¬ (u = 0 ∧ v = 0)) : quarter v (-u) = (quarter u v + 1) % 4 := by
  unfold quarter
  (repeat' split) <;> omega
theorem quarter_bd (u v : Int) : 0 ≤ quarter u v ∧ quarter u v ≤ 3 := by
  unfold quarter; (repeat' split) <;> omega
theorem quarter_turnN {u v : Int} (n : Nat) (h : bear u v = true) : quarter (turnN n (u, v)).1 (turnN n (u, v)).2 = (quarter u v + n) % 4 := by
  induction n generalizing u v with
  | zero => have := quarter_bd u v; show quarter u v = _; omega
  | succ n ih =>
    have := ih (bear_turn h)
    show quarter (turnN n (v, -u)).1 (turnN n (v, -u)).2 = _
    rw [this, quarter_turn (bear_nz h)]
    omega
theorem turnN_add (m n : Nat) (p : Int × Int) : turnN n (turnN m p) = turnN (m + n) p := by
  induction m generalizing p with
  | zero => rw [Nat.zero_add]; rfl
  | succ m ih => rw [Nat.succ_add]; exact ih (turn1 p)
theorem turn4 (p : Int × Int) : turnN 4 p = p := by
  obtain ⟨x, y⟩ := p
  simp [turnN, turn1]
theorem cross_same {a b c d e f : Int} (_hc : bear e f = true) (q1 : quarter a b = quarter e f) (q2 : quarter e f = quarter c d) (h1 : ¬ (a * f - b * e < 0)) (h2 : ¬ (e * d - f * c < 0)) : ¬ (a * d - b * c < 0) := by
  intro h3
  -- (a x c) e = (e x c) a + (a x e) c, coordinate by coordinate
  have ix : (a * d - b * c) * e = (e * d - f * c) * a + (a * f - b * e) * c := by grind
  have iy : (a * d - b * c) * f = (e * d - f * c) * b + (a * f - b * e) * d := by grind
  generalize hA : a * d - b * c = A at *
  generalize hB : e * d - f * c = B at *
  generalize hC : a * f - b * e = C at *
  clear hA hB hC
  have pos : ∀ {p q : Int}, 0 ≤ p → 0 ≤ q → 0 ≤ p * q := fun h k => Int.mul_nonneg h k
  have neg : ∀ {p q : Int}, p < 0 → 0 < q → p * q < 0 := fun h k => Int.mul_neg_of_neg_of_pos h k
  unfold quarter at q1 q2
  by_cases k0 : 0 ≤ e ∧ 0 < f
  · rw [if_pos k0] at q1 q2
    have ka : 0 ≤ a ∧ 0 < b := by (repeat' split at q1) <;> omega
    have kc : 0 ≤ c ∧ 0 < d := by (repeat' split at q2) <;> omega
    have z1 := pos (by omega : 0 ≤ B) (by omega : 0 ≤ b)
    have z2 := pos (by omega : 0 ≤ C) (by omega : 0 ≤ d)
    have z3 := neg h3 k0.2
    omega
  · rw [if_neg k0] at q1 q2
    by_cases k1 : 0 < e
    · rw [if_pos k1] at q1 q2
      have ka : 0 < a := by (repeat' split at q1) <;> omega
      have kc : 0 < c := by (repeat' split at q2) <;> omega
      have z1 := pos (by omega : 0 ≤ B) (by omega : 0 ≤ a)
      have z2 := pos (by omega : 0 ≤ C) (by omega : 0 ≤ c)
      have z3 := neg h3 k1
      omega
    · rw [if_neg k1] at q1 q2
      by_cases k2 : f < 0
      · rw [if_pos k2] at q1 q2
        have ka : b < 0 := by (repeat' split at q1) <;> omega
        have kc : d < 0 := by (repeat' split at q2) <;> omega
        have z1 := pos (by omega : 0 ≤ B) (by omega : 0 ≤ -b)
        have z2 := pos (by omega : 0 ≤ C) (by omega : 0 ≤ -d)
        have z3 := neg h3 (by omega : 0 < -f)
        rw [Int.mul_neg] at z1 z2 z3
        omega
      · rw [if_neg k2] at q1 q2
        have hz := bear_nz _hc
        have ke : e < 0 := by omega
        have ka : a ≤ 0 := by (repeat' split at q1) <;> omega
        have kc : c ≤ 0 := by (repeat' split at q2) <;> omega
        have z1 := pos (by omega : 0 ≤ B) (by omega : 0 ≤ -a)
        have z2 := pos (by omega : 0 ≤ C) (by omega : 0 ≤ -c)
        have z3 := neg h3 (by omega : 0 < -e)
        rw [Int.mul_neg] at z1 z2 z3
        omega
end Go.Proofs.YtibnhdbgfodjpaaDoor.Hand
