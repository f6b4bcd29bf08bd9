/- The law FnBearingLess of the printed functions: the order of bearings is strict, goes by quarters, and any bearing lies behind the first or ahead of the second of two ordered ones. -/
import Derived.Test.YtbcngmlgmohkcaaDl
import Derived.Test.YtbcngmlgmohkcaaPl
import Derived.Test.YtbcngmlgmohkcaaMd
import Derived.Test.YtbcngmlgmohkcaaP0x39
namespace Go.Proofs.Ytbcngmlgmohkcaa.Pure
open Go.RowKit Go.Proofs.Ytbcngmlgmohkcaa.P0 Go.Proofs.Ytbcngmlgmohkcaa.Hand Go.Proofs.YtbcngmlgmohkcaaW.PrintWords Go.Proofs.YtbcngmlgmohkcaaW.PrintLast
theorem less_spec {a b c d : Int} (h : bearLess a b c d = true) : bear a b = true ∧ bear c d = true ∧ (quarter a b < quarter c d ∨ quarter a b = quarter c d ∧ a * d - b * c < 0) := by
  unfold bearLess at h
  split at h
  · rename_i hc
    simp only [Bool.and_eq_true] at hc
    refine ⟨hc.1, hc.2, ?_⟩
    split at h
    · rename_i hq; right; exact ⟨hq, by simpa using h⟩
    · left; simpa using h
  · simp at h
theorem less_not {a b c d : Int} (h1 : bear a b = true) (h2 : bear c d = true) (h : bearLess a b c d = false) : quarter c d ≤ quarter a b ∧ (quarter a b = quarter c d → ¬ (a * d - b * c < 0)) := by
  unfold bearLess at h
  rw [if_pos (by simp [h1, h2])] at h
  split at h
  · rename_i hq
    have := of_decide_eq_false h
    exact ⟨by omega, fun _ => this⟩
  · rename_i hq
    have := of_decide_eq_false h
    exact ⟨by omega, fun e => absurd e hq⟩
theorem less_asym {a b c d : Int} (h : bearLess a b c d = true) : bearLess c d a b = false := by
  have s := less_spec h
  rw [← Bool.not_eq_true]
  intro h2
  have s2 := less_spec h2
  have e : c * b - d * a = -(a * d - b * c) := by grind
  omega
theorem less_between {a b c d e f : Int} (h : bearLess a b c d = true) (hc : bear e f = true) : bearLess a b e f = true ∨ bearLess e f c d = true := by
  have s := less_spec h
  cases k1 : bearLess a b e f with
  | true => exact .inl rfl
  | false =>
    cases k2 : bearLess e f c d with
    | true => exact .inr rfl
    | false =>
      have n1 := less_not s.1 hc k1
      have n2 := less_not hc s.2.1 k2
      rcases s.2.2 with hq | ⟨hq, hx⟩
      · omega
      · have q1 : quarter a b = quarter e f := by omega
        have q2 : quarter e f = quarter c d := by omega
        exact absurd hx (cross_same hc q1 q2 (n1.2 q1) (n2.2 q2))
theorem FnBearingLess : ∀ (l0 : List Int) (l1 : List Int), l0.length ≤ maxLen → l0.length * 1 ≤ 140737488351232 → (∀ x ∈ l0, (Lit.int .u8 x).wf = true) → l1.length ≤ maxLen → l1.length * 1 ≤ 140737488351232 → (∀ x ∈ l1, (Lit.int .u8 x).wf = true) → ∃ k, laws_FnBearingLess.f k l0 l1 = some true := by
  intro l0 l1 _ _ hw _ _ _
  obtain ⟨⟨a, b, c, d⟩, hd, _⟩ := tot_DrawBearingLess l0 (Bytes.of_wf hw)
  have hd2 : spec_DrawBearingLess.f (KK + 199) l0 = some (a, b, c, d) := hd _ (by omega)
  refine ⟨KK + 200, ?_⟩
  have jt : laws_FnBearingLess.j0 (KK + 200) l0 l1 true = some true := by
    show laws_FnBearingLess.j0 ((KK + 199) + 1) l0 l1 true = some true
    simp [laws_FnBearingLess.j0]
  unfold laws_FnBearingLess.f
  by_cases hlen : (l0.length : Int) > 1048576
  · rw [if_pos hlen]; exact jt
  · rw [if_neg hlen]
    by_cases hlen2 : (l1.length : Int) > 1048576
    · rw [decide_eq_true hlen2]; exact jt
    · rw [decide_eq_false hlen2]
      show laws_FnBearingLess.j0 ((KK + 199) + 1) l0 l1 false = some true
      simp only [laws_FnBearingLess.j0, Bool.false_eq_true, if_false]
      rw [hd2]
      simp only [Option.bind_some]
      rw [iBearingLess_eq (KK + 199) (by omega), sBearingLess_eq (KK + 199) (by omega)]
      simp only [Option.bind_some, bne_self_eq_false, Bool.false_eq_true, if_false]
      show laws_FnBearingLess.j1 ((KK + 198) + 1) l1 _ _ _ a b c d = some true
      simp only [laws_FnBearingLess.j1]
      cases h : bearLess a b c d with
      | false => simp
      | true =>
        have s := less_spec h
        have asy := less_asym h
        simp only [Bool.not_true, Bool.false_eq_true, if_false]
        rw [iBearingOf_eq (KK + 198) (by omega), iBearingQuarter_eq (KK + 198) (by omega), iBearingQuarter_eq (KK + 198) (by omega), iBearingLess_eq (KK + 198) (by omega)]
        generalize hp : bearOf (((l1.length : Int) % 9) - 4) (wrap64 ((Int.tmod (wrap64 ((l1.length : Int) / 9)) 9) - 4)) = p at *
        obtain ⟨e, f, okc⟩ := p
        unfold bearQuarter
        rw [if_pos s.1, if_pos s.2.1, asy]
        simp only [Option.bind_some, if_true, Bool.false_eq_true, if_false]
        rw [if_pos (by omega)]
        cases okc with
        | false => simp
        | true =>
          have hc := (bearOf_spec hp).1
          simp only [if_true]
          rw [iBearingLess_eq (KK + 198) (by omega), iBearingLess_eq (KK + 198) (by omega)]
          simp only [Option.bind_some]
          rcases less_between h hc with k1 | k2
          · rw [k1]; simp
          · rw [k2]; simp
end Go.Proofs.Ytbcngmlgmohkcaa.Pure
