/- The law FnQuoOf of the printed functions: what is drawn is reduced, its value is kept, and a multiple by -6 reduces to the same. -/
import Derived.Test.YtbcngmlgmohkcaaDo
import Derived.Test.YtbcngmlgmohkcaaQo
import Derived.Test.YtbcngmlgmohkcaaMc
import Derived.Test.YtbcngmlgmohkcaaP0x30
namespace Go.Proofs.Ytbcngmlgmohkcaa.Pure
open Go.RowKit Go.Proofs.Ytbcngmlgmohkcaa.P0 Go.Proofs.Ytbcngmlgmohkcaa.Hand Go.Proofs.YtbcngmlgmohkcaaW.PrintWords Go.Proofs.YtbcngmlgmohkcaaW.PrintLast
theorem small_of {a : Int} (h0 : -4000000000000000000 ≤ a) (h1 : a ≤ 4000000000000000000) (h : mx a (wrap64 (-a)) < 100000000) : -100000000 < a ∧ a < 100000000 := by
  rw [w64 (-a) (by omega) (by omega)] at h
  unfold mx at h
  split at h <;> omega
theorem tmod_small {a : Int} (h0 : -100000000 < a) (h1 : a < 100000000) : Int.tmod a 100000000 = a := by
  by_cases h : 0 ≤ a
  · rw [Int.tmod_eq_emod_of_nonneg h]; omega
  · have h2 : a = -(-a) := by omega
    rw [h2, Int.neg_tmod, Int.tmod_eq_emod_of_nonneg (by omega)]; omega
theorem tmod_bd (a : Int) : -100000000 < Int.tmod a 100000000 ∧ Int.tmod a 100000000 < 100000000 := by
  by_cases h : 0 ≤ a
  · rw [Int.tmod_eq_emod_of_nonneg h]; omega
  · have h2 : a = -(-a) := by omega
    rw [h2, Int.neg_tmod, Int.tmod_eq_emod_of_nonneg (by omega)]; omega
theorem FnQuoOf : ∀ (l0 : List Int), l0.length ≤ maxLen → l0.length * 1 ≤ 140737488351232 → (∀ x ∈ l0, (Lit.int .u8 x).wf = true) → ∃ k, laws_FnQuoOf.f k l0 = some true := by
  intro l0 _ _ hw
  obtain ⟨⟨a, b⟩, hd, _⟩ := tot_DrawQuoOf l0 (Bytes.of_wf hw)
  refine ⟨KK + 200, ?_⟩
  unfold laws_FnQuoOf.f
  by_cases hlen : (l0.length : Int) > 1048576
  · rw [if_pos hlen]
  · have hd2 : spec_DrawQuoOf.f (KK + 200) l0 = some (a, b) := hd _ (by omega)
    rw [if_neg hlen, hd2]
    simp only [Option.bind_some]
    rw [iQuoOf_eq (KK + 200) (by omega), sQuoOf_eq (KK + 200) (by omega)]
    simp only [Option.bind_some]
    rcases h : quoOf a b with ⟨t, l, ok⟩
    simp only [bne_self_eq_false, Bool.false_eq_true, if_false, beq_self_eq_true, Bool.not_true, Bool.or_self]
    show laws_FnQuoOf.j0 ((KK + 199) + 1) a b ok ok (!ok) t l t l = some true
    simp only [laws_FnQuoOf.j0]
    cases ok with
    | false => simp
    | true =>
      have hs := quoOf_spec h
      have ra := (inB_iff _ _).1 hs.2.2.2.1
      have rb := (inB_iff _ _).1 hs.2.2.2.2
      have ma := tmod_bd a
      have mb := tmod_bd b
      have ho := (quoOk_iff _ _).1 hs.1
      simp only [Bool.not_true, Bool.false_eq_true, if_false]
      rw [iQuoValid_eq (KK + 199) (by omega), hs.1, iQuoOf_eq (KK + 199) (by omega), w64 (-6 * Int.tmod a 100000000) (by omega) (by omega), w64 (-6 * Int.tmod b 100000000) (by omega) (by omega)]
      simp only [Option.bind_some, if_true]
      by_cases h1 : mx a (wrap64 (-a)) < 100000000
      · rw [if_pos h1]
        by_cases h2 : mx b (wrap64 (-b)) < 100000000
        · rw [if_pos h2]
          have sa := small_of ra.1 ra.2 h1
          have sb := small_of rb.1 rb.2 h2
          have p1 := (mul_bd t b 1000000000 100000000 (by omega) (by omega))
          have p2 := (mul_bd a l 100000000 1000000000 (by omega) (by omega))
          have e1 : (1000000000 : Int) * 100000000 = 100000000000000000 := by decide
          have e2 : (100000000 : Int) * 1000000000 = 100000000000000000 := by decide
          rw [e1] at p1
          rw [e2] at p2
          rw [w64 (t * b) (by omega) (by omega), w64 (a * l) (by omega) (by omega), if_pos hs.2.1, tmod_small sa.1 sa.2, tmod_small sb.1 sb.2]
          rw [if_neg hs.2.2.1]
          have q : quoOf (-6 * a) (-6 * b) = (t, l, true) := by
            refine quoOf_complete (by omega) ((inB_iff _ _).2 (by omega)) ((inB_iff _ _).2 (by omega)) hs.1 ?_
            have := hs.2.1
            grind
          rw [q]; simp
        · rw [if_neg h2]
      · rw [if_neg h1]
end Go.Proofs.Ytbcngmlgmohkcaa.Pure
