import Derived.Test.YtibnhdbgfodjpaaDoorMb
/- The value of a quotient: t/l is the value of a/b; two quotients in lowest terms of one value are equal. -/
namespace Go.Proofs.YtibnhdbgfodjpaaDoor.Hand
theorem gcdZ_dvd_left (a b : Int) : gcdZ a b ∣ a := by unfold gcdZ; exact Int.gcd_dvd_left a b
theorem gcdZ_dvd_right (a b : Int) : gcdZ a b ∣ b := by unfold gcdZ; exact Int.gcd_dvd_right a b
theorem tdiv_exact {a g : Int} (h : g ∣ a) : a.tdiv g * g = a := Int.tdiv_mul_cancel h
theorem red_cop (a b : Int) (hb : 0 < b) : gcdZ (a.tdiv (gcdZ a b)) (b.tdiv (gcdZ a b)) = 1 ∧ 0 < b.tdiv (gcdZ a b) := by
  have hg := gcdZ_pos a b (by omega)
  have e1 := tdiv_exact (gcdZ_dvd_left a b)
  have e2 := tdiv_exact (gcdZ_dvd_right a b)
  have hp : 0 < b.tdiv (gcdZ a b) := by
    rcases Int.lt_or_le 0 (b.tdiv (gcdZ a b)) with h | h
    · exact h
    · have := Int.mul_nonneg (a := - b.tdiv (gcdZ a b)) (b := gcdZ a b) (by omega) (by omega)
      rw [Int.neg_mul] at this
      omega
  refine ⟨?_, hp⟩
  have h1 : Nat.gcd (a.natAbs / Int.gcd a b) (b.natAbs / Int.gcd a b) = 1 :=
    Nat.gcd_div_gcd_div_gcd_of_pos_right (n := a.natAbs) (m := b.natAbs) (by omega)
  have n1 : (a.tdiv (gcdZ a b)).natAbs = a.natAbs / Int.gcd a b := by
    have := Int.natAbs_tdiv a (gcdZ a b)
    rw [this]; unfold gcdZ; rfl
  have n2 : (b.tdiv (gcdZ a b)).natAbs = b.natAbs / Int.gcd a b := by
    have := Int.natAbs_tdiv b (gcdZ a b)
    rw [this]; unfold gcdZ; rfl
  have : Int.gcd (a.tdiv (gcdZ a b)) (b.tdiv (gcdZ a b)) = 1 := by
    unfold Int.gcd; rw [n1, n2]; exact h1
  show ((Int.gcd (a.tdiv (gcdZ a b)) (b.tdiv (gcdZ a b)) : Nat) : Int) = 1
  rw [this]; rfl
theorem cop_dvd {t l t' l' : Int} (c : gcdZ t l = 1) (e : t * l' = t' * l) : l ∣ l' := by
  have h : Nat.Coprime l.natAbs t.natAbs := by
    unfold gcdZ Int.gcd at c
    unfold Nat.Coprime
    rw [Nat.gcd_comm]; omega
  have d : l.natAbs ∣ t.natAbs * l'.natAbs := by
    rw [← Int.natAbs_mul, e, Int.natAbs_mul]
    exact Nat.dvd_mul_left _ _
  exact Int.natAbs_dvd_natAbs.mp (h.dvd_of_dvd_mul_left d)
theorem cop_unique {t l t' l' : Int} (hl : 0 < l) (hl' : 0 < l') (c : gcdZ t l = 1) (c' : gcdZ t' l' = 1) (e : t * l' = t' * l) : t = t' ∧ l = l' := by
  have d1 := Int.le_of_dvd hl' (cop_dvd c e)
  have d2 := Int.le_of_dvd hl (cop_dvd c' e.symm)
  have hll : l = l' := by omega
  subst hll
  exact ⟨Int.eq_of_mul_eq_mul_right (by omega) e, rfl⟩
theorem quoOk_unique {t l t' l' : Int} (h : quoOk t l = true) (h' : quoOk t' l' = true) (e : t * l' = t' * l) : t = t' ∧ l = l' := by
  rw [quoOk_iff] at h h'
  exact cop_unique (by omega) (by omega) h.2.2.2.2 h'.2.2.2.2 e
theorem quoRed_spec {a b t l : Int} (h : quoRed a b = (t, l, true)) : quoOk t l = true ∧ t * b = a * l := by
  unfold quoRed at h
  split at h
  · rename_i hk
    simp only [Prod.mk.injEq, and_true] at h
    obtain ⟨rfl, rfl⟩ := h
    refine ⟨hk, ?_⟩
    have e1 := tdiv_exact (gcdZ_dvd_left a b)
    have e2 := tdiv_exact (gcdZ_dvd_right a b)
    generalize a.tdiv (gcdZ a b) = x at *
    generalize b.tdiv (gcdZ a b) = y at *
    generalize gcdZ a b = g at *
    subst e1 e2
    grind
  · simp at h
theorem quoRed_complete {a b t l : Int} (hb : 0 < b) (h : quoOk t l = true) (e : t * b = a * l) : quoRed a b = (t, l, true) := by
  have hc := red_cop a b hb
  have e1 := tdiv_exact (gcdZ_dvd_left a b)
  have e2 := tdiv_exact (gcdZ_dvd_right a b)
  have hg := gcdZ_pos a b (by omega)
  have h0 := (quoOk_iff _ _).1 h
  have u : t = a.tdiv (gcdZ a b) ∧ l = b.tdiv (gcdZ a b) := by
    refine cop_unique (by omega) hc.2 h0.2.2.2.2 hc.1 ?_
    generalize a.tdiv (gcdZ a b) = x at *
    generalize b.tdiv (gcdZ a b) = y at *
    generalize gcdZ a b = g at *
    have : (t * y - x * l) * g = 0 := by grind
    rcases Int.mul_eq_zero.mp this with z | z
    · omega
    · omega
  unfold quoRed
  rw [← u.1, ← u.2, if_pos h]
theorem quoOf_spec {a b t l : Int} (h : quoOf a b = (t, l, true)) : quoOk t l = true ∧ t * b = a * l ∧ b ≠ 0 ∧ inB a 4000000000000000000 = true ∧ inB b 4000000000000000000 = true := by
  unfold quoOf at h
  split at h
  · simp at h
  · rename_i hc
    simp at hc
    split at h
    · have := quoRed_spec h
      refine ⟨this.1, by have := this.2; grind, hc.1, hc.2⟩
    · have := quoRed_spec h
      exact ⟨this.1, this.2, hc.1, hc.2⟩
theorem quoOf_complete {a b t l : Int} (hb : b ≠ 0) (ha : inB a 4000000000000000000 = true) (hb2 : inB b 4000000000000000000 = true) (h : quoOk t l = true) (e : t * b = a * l) : quoOf a b = (t, l, true) := by
  unfold quoOf
  rw [if_neg (by simp [hb, ha, hb2])]
  split
  · exact quoRed_complete (by omega) h (by grind)
  · exact quoRed_complete (by omega) h e
/-- A failed quotient is the zero quotient. -/
theorem quoOf_no {a b : Int} : (quoOf a b).2.2 = false → quoOf a b = (0, 0, false) := by
  unfold quoOf quoRed
  intro h
  (repeat' split at h) <;> (repeat' split) <;> simp_all
end Go.Proofs.YtibnhdbgfodjpaaDoor.Hand
