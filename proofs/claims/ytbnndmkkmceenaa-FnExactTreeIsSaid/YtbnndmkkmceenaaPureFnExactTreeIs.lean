/- The law FnExactTreeIs of the printed functions. -/
import Derived.Test.YtbnndmkkmceenaaNt
import Derived.Test.YtbnndmkkmceenaaRk
import Derived.Test.YtbnndmkkmceenaaP1x6
namespace Go.Proofs.Ytbnndmkkmceenaa.Pure
set_option linter.unusedVariables false
set_option linter.unusedSimpArgs false
open Go.RowKit Go.Proofs.Ytbnndmkkmceenaa.P0 Go.Proofs.Ytbnndmkkmceenaa.P1 Go.Proofs.YtbnndmkkmceenaaW.PrintWords Go.Proofs.YtbnndmkkmceenaaW.PrintLast
theorem FnExactTreeIs : ∀ (a0 : Int) (l1 : List Ln) (l2 : List Int), (Lit.int .i64 a0).wf = true → l1.length ≤ maxLen → l1.length * 32 ≤ 140737488351232 → (∀ r ∈ l1, Runs.wfRun r) → l2.length ≤ maxLen → l2.length * 8 ≤ 140737488351232 → (∀ x ∈ l2, (Lit.int .i64 x).wf = true) → ∃ k, laws_FnExactTreeIs.f k a0 l1 l2 = some true := by
  intro a0 l1 l2 _ hm _ _ _ _ _
  refine ⟨9000000, ?_⟩
  unfold laws_FnExactTreeIs.f
  by_cases hc : (l2.length : Int) > 1048576
  · rw [if_pos hc]
  rw [if_neg hc, szRunS_eq l1 (by unfold maxLen at hm; omega), Option.bind_some]
  by_cases h : (l1.length : Int) > 1048576
  · rw [if_pos h]; rfl
  · rw [if_neg h, if_neg (by omega)]
    rw [toRunS_eq l1 (by omega) _ (by omega), toIntS_eq l2 (by omega) _ (by omega)]
    simp only [Option.bind_some]
    rw [sTreeIs_eq _ _ _ (by simp; omega) (by omega) _ (by simp; omega), iTreeIs_eq _ _ _ (by simp; omega) (by omega) _ (by simp; omega)]
    simp only [Option.bind_some, bne_self_eq_false, Bool.false_eq_true, if_false]
    rw [eqRunS_eq _ (by simp; omega) _ (by simp; omega), eqIntS_eq _ (by omega) _ (by omega)]
    simp
end Go.Proofs.Ytbnndmkkmceenaa.Pure
