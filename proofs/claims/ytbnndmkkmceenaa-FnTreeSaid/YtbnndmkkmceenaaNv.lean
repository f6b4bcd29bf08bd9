/- A net is valid: as both sides come to it. -/
import Derived.Test.YtbnndmkkmceenaaP0x3
namespace Go.Proofs.Ytbnndmkkmceenaa.Pure
set_option linter.unusedVariables false
set_option linter.unusedSimpArgs false
open Go.RowKit Go.Proofs.Ytbnndmkkmceenaa.P0 Go.Proofs.YtbnndmkkmceenaaW.PrintWords Go.Proofs.YtbnndmkkmceenaaW.PrintLast
abbrev Rn := S36
abbrev Ln := S73
theorem w64 (x : Int) (h0 : -9223372036854775808 ≤ x) (h1 : x ≤ 9223372036854775807) : wrap64 x = x := by unfold wrap64; omega
theorem drop_rd {l : List Rn} {i : Int} (h0 : 0 ≤ i) (h1 : i < l.length) : l.drop i.toNat = rd_T36 l i :: l.drop (i + 1).toNat := by
  rw [List.drop_eq_getElem_cons (by omega)]
  unfold rd_T36
  rw [List.getD_eq_getElem?_getD, List.getElem?_eq_getElem (by omega), Option.getD_some, show (i + 1).toNat = i.toNat + 1 by omega]
theorem drop_rdL {l : List Ln} {i : Int} (h0 : 0 ≤ i) (h1 : i < l.length) : l.drop i.toNat = rd_T73 l i :: l.drop (i + 1).toNat := by
  rw [List.drop_eq_getElem_cons (by omega)]
  unfold rd_T73
  rw [List.getD_eq_getElem?_getD, List.getElem?_eq_getElem (by omega), Option.getD_some, show (i + 1).toNat = i.toNat + 1 by omega]
theorem drop_int {l : List Int} {i : Int} (h0 : 0 ≤ i) (h1 : i < l.length) : l.drop i.toNat = rd l i :: l.drop (i + 1).toNat := by
  rw [List.drop_eq_getElem_cons (by omega)]
  unfold rd
  rw [List.getD_eq_getElem?_getD, List.getElem?_eq_getElem (by omega), Option.getD_some, show (i + 1).toNat = i.toNat + 1 by omega]
theorem drop_end {α : Type} {l : List α} {i : Int} (h : (l.length : Int) ≤ i) : l.drop i.toNat = [] := List.drop_eq_nil_of_le (by omega)
def okRun (n : Int) (r : Rn) : Bool := decide (0 ≤ r.f0) && decide (r.f0 < n) && decide (0 ≤ r.f1) && decide (r.f1 < n) && decide (r.f0 ≠ r.f1) && decide (-100000 ≤ r.f2) && decide (r.f2 ≤ 100000) && decide (1 ≤ r.f3) && decide (r.f3 ≤ 9)
theorem okRun_iff {n : Int} {r : Rn} : okRun n r = true ↔ (0 ≤ r.f0 ∧ r.f0 < n) ∧ (0 ≤ r.f1 ∧ r.f1 < n) ∧ r.f0 ≠ r.f1 ∧ (-100000 ≤ r.f2 ∧ r.f2 ≤ 100000) ∧ (1 ≤ r.f3 ∧ r.f3 ≤ 9) := by
  unfold okRun
  simp only [Bool.and_eq_true, decide_eq_true_eq, and_assoc]
def valid (n : Int) (l : List Rn) : Bool := decide (2 ≤ n) && decide (n ≤ 6) && decide (l.length ≤ 12) && l.all (okRun n)
theorem valid_iff {n : Int} {l : List Rn} : valid n l = true ↔ 2 ≤ n ∧ n ≤ 6 ∧ l.length ≤ 12 ∧ ∀ r ∈ l, okRun n r = true := by
  unfold valid
  simp only [Bool.and_eq_true, decide_eq_true_eq, and_assoc, List.all_eq_true]
theorem within_eq (a b : Int) (h0 : 0 ≤ b) (h1 : b ≤ 9000000000000000000) : impl_within.f a b = some (decide (-b ≤ a) && decide (a ≤ b)) := by
  unfold impl_within.f
  rw [w64 _ (by omega) (by omega)]
  by_cases h : -b ≤ a
  · rw [if_pos h]; simp [h]
  · rw [if_neg h]; simp [h]
theorem runValid_eq (n : Int) (r : Rn) : impl_runValid.f n r.f0 r.f1 r.f2 r.f3 = some (okRun n r) := by
  unfold impl_runValid.f okRun
  rw [within_eq _ _ (by omega) (by omega)]
  by_cases a : r.f0 < 0
  · rw [if_pos a]; congr 1; symm; simp [show ¬ 0 ≤ r.f0 by omega]
  · rw [if_neg a]
    by_cases b : r.f0 ≥ n
    · rw [if_pos b]; congr 1; symm; simp [show ¬ r.f0 < n by omega]
    · rw [if_neg b]
      by_cases c : r.f1 < 0
      · rw [if_pos c]; congr 1; symm; simp [show ¬ 0 ≤ r.f1 by omega]
      · rw [if_neg c]
        by_cases d : r.f1 ≥ n
        · rw [if_pos d]; congr 1; symm; simp [show ¬ r.f1 < n by omega]
        · rw [if_neg d]
          by_cases e : r.f0 = r.f1
          · rw [if_pos e]; congr 1; symm; simp [e]
          · rw [if_neg e]
            simp only [Option.bind_some, Bool.and_eq_true, decide_eq_true_eq]
            have h0 : 0 ≤ r.f0 := by omega
            have h1 : r.f0 < n := by omega
            have h2 : 0 ≤ r.f1 := by omega
            have h3 : r.f1 < n := by omega
            simp only [h0, h1, h2, h3, e, ne_eq, not_false_eq_true, decide_true, Bool.true_and]
            by_cases f : -100000 ≤ r.f2 ∧ r.f2 ≤ 100000
            · rw [if_pos f]
              simp only [f.1, f.2, decide_true, Bool.true_and]
              by_cases g : r.f3 ≥ 1
              · rw [if_pos g, decide_eq_true (show (1:Int) ≤ r.f3 from g), Bool.true_and]
              · rw [if_neg g, decide_eq_false (show ¬ (1:Int) ≤ r.f3 from g), Bool.false_and]
            · rw [if_neg f]
              by_cases g : -100000 ≤ r.f2
              · have : ¬ r.f2 ≤ 100000 := fun z => f ⟨g, z⟩
                simp [g, this]
              · simp [g]
theorem iNetValid_l0 (n : Int) (l : List Rn) (hl : l.length ≤ 1000000000) : ∀ (k : Nat) (i : Int), 0 ≤ i → i ≤ l.length → l.length < k + i → impl_NetValid.l0 k n l (l.length : Int) i = some ((l.drop i.toNat).all (okRun n))
  | 0, i, _, h1, h2 => by omega
  | k + 1, i, h0, h1, h2 => by
    simp only [impl_NetValid.l0]
    by_cases h : i < (l.length : Int)
    · rw [if_pos h, if_pos h0, if_pos h, runValid_eq, Option.bind_some, drop_rd h0 h, List.all_cons]
      cases hv : okRun n (rd_T36 l i) with
      | true =>
        rw [if_pos rfl, w64 _ (by omega) (by omega), iNetValid_l0 n l hl k (i + 1) (by omega) (by omega) (by omega)]
        rfl
      | false => rfl
    · rw [if_neg h, drop_end (by omega)]; rfl
theorem iNetValid_eq (n : Int) (l : List Rn) (hl : l.length ≤ 1000000000) (k : Nat) (hk : l.length + 2 ≤ k) : impl_NetValid.f k n l = some (valid n l) := by
  unfold impl_NetValid.f valid
  obtain ⟨k, rfl⟩ : ∃ m, k = m + 1 := ⟨k - 1, by omega⟩
  simp only [impl_NetValid.j0]
  by_cases a : n < 2
  · rw [if_pos a, if_pos trivial]; congr 1; symm; simp [show ¬ 2 ≤ n by omega]
  · rw [if_neg a]
    by_cases b : n > 6
    · rw [if_pos b, if_pos trivial]; congr 1; symm; simp [show ¬ n ≤ 6 by omega]
    · rw [if_neg b]
      have h2 : 2 ≤ n := by omega
      have h6 : n ≤ 6 := by omega
      simp only [h2, h6, decide_true, Bool.true_and, decide_eq_true_eq]
      by_cases c : (l.length : Int) > 12
      · rw [if_pos c]; congr 1; symm; simp [show ¬ l.length ≤ 12 by omega]
      · rw [if_neg c, iNetValid_l0 n l hl k 0 (by omega) (by omega) (by omega)]
        simp [show l.length ≤ 12 by omega]
theorem l6In_eq (a b c : Int) : spec_l6In.f a b c = some (decide (b ≤ a) && decide (a ≤ c)) := by
  unfold spec_l6In.f
  by_cases h : a ≥ b
  · rw [if_pos h, decide_eq_true (show b ≤ a from h), Bool.true_and]
  · rw [if_neg h, decide_eq_false (show ¬ b ≤ a from h), Bool.false_and]
theorem sNetValid_l0 (n : Int) (hn : 2 ≤ n ∧ n ≤ 6) (l : List Rn) (hl : l.length ≤ 1000000000) : ∀ (k : Nat) (i : Int), 0 ≤ i → i ≤ l.length → 2 * (l.length : Int) < k + 2 * i → spec_NetValid.l0 k n l i = some ((l.drop i.toNat).all (okRun n))
  | 0, i, _, h1, h2 => by omega
  | k + 1, i, h0, h1, h2 => by
    simp only [spec_NetValid.l0]
    by_cases h : i < (l.length : Int)
    · rw [if_pos h, if_pos h0, l6In_eq, l6In_eq, w64 _ (by omega) (by omega), drop_rd h0 h, List.all_cons]
      obtain ⟨k, rfl⟩ : ∃ m, k = m + 1 := ⟨k - 1, by omega⟩
      simp only [Option.bind_some, spec_NetValid.j2, l6In_eq, if_true]
      rw [w64 _ (by omega) (by omega), sNetValid_l0 n hn l hl k (i + 1) (by omega) (by omega) (by omega)]
      generalize rd_T36 l i = r
      generalize (l.drop (i + 1).toNat).all (okRun n) = t
      have hk : okRun n r = ((decide (0 ≤ r.f0) && decide (r.f0 ≤ n - 1)) && ((decide (0 ≤ r.f1) && decide (r.f1 ≤ n - 1)) && (!(r.f0 == r.f1) && ((decide (-100000 ≤ r.f2) && decide (r.f2 ≤ 100000)) && (decide (1 ≤ r.f3) && decide (r.f3 ≤ 9)))))) := by
        rw [Bool.eq_iff_iff, okRun_iff]
        simp only [Bool.and_eq_true, decide_eq_true_eq, Bool.not_eq_true', beq_eq_false_iff_ne, ne_eq]
        omega
      rw [hk]
      generalize (decide (0 ≤ r.f0) && decide (r.f0 ≤ n - 1)) = b1
      generalize (decide (0 ≤ r.f1) && decide (r.f1 ≤ n - 1)) = b2
      generalize (r.f0 == r.f1) = b3
      generalize (decide (-100000 ≤ r.f2) && decide (r.f2 ≤ 100000)) = b4
      generalize (decide (1 ≤ r.f3) && decide (r.f3 ≤ 9)) = b5
      cases b1 <;> cases b2 <;> cases b3 <;> cases b4 <;> cases b5 <;> simp
    · rw [if_neg h, drop_end (by omega)]; rfl
theorem sNetValid_eq (n : Int) (l : List Rn) (hl : l.length ≤ 1000000000) (k : Nat) (hk : 2 * l.length + 2 ≤ k) : spec_NetValid.f k n l = some (valid n l) := by
  unfold spec_NetValid.f valid
  rw [l6In_eq, Option.bind_some]
  obtain ⟨k, rfl⟩ : ∃ m, k = m + 1 := ⟨k - 1, by omega⟩
  simp only [spec_NetValid.j0]
  by_cases a : 2 ≤ n ∧ n ≤ 6
  · simp only [a.1, a.2, decide_true, Bool.and_self, if_true, Bool.true_and, decide_eq_true_eq]
    by_cases c : (l.length : Int) > 12
    · rw [if_pos c]; congr 1; symm; simp [show ¬ l.length ≤ 12 by omega]
    · rw [if_neg c, sNetValid_l0 n a l hl k 0 (by omega) (by omega) (by omega)]
      simp [show l.length ≤ 12 by omega]
  · have : (decide (2 ≤ n) && decide (n ≤ 6)) = false := by
      rw [Bool.eq_false_iff]; simpa using fun z => by omega
    rw [this]; simp
end Go.Proofs.Ytbnndmkkmceenaa.Pure
