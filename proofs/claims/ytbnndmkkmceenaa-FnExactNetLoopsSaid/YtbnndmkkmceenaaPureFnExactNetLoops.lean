/- The law FnExactNetLoops of the printed functions. -/
import Derived.Test.YtbnndmkkmceenaaNw
import Derived.Test.YtbnndmkkmceenaaRk
import Derived.Test.YtbnndmkkmceenaaP1x3
namespace Go.Proofs.Ytbnndmkkmceenaa.Pure
set_option linter.unusedVariables false
set_option linter.unusedSimpArgs false
open Go.RowKit Go.Proofs.Ytbnndmkkmceenaa.P0 Go.Proofs.Ytbnndmkkmceenaa.P1 Go.Proofs.YtbnndmkkmceenaaW.PrintWords Go.Proofs.YtbnndmkkmceenaaW.PrintLast
theorem FnExactNetLoops : ∀ (a0 : Int) (l1 : List Ln), (Lit.int .i64 a0).wf = true → l1.length ≤ maxLen → l1.length * 32 ≤ 140737488351232 → (∀ r ∈ l1, Runs.wfRun r) → ∃ k, laws_FnExactNetLoops.f k a0 l1 = some true := by
  intro a0 l1 _ hm _ _
  refine ⟨9000000 + 3, ?_⟩
  unfold laws_FnExactNetLoops.f
  rw [szRunS_eq l1 (by unfold maxLen at hm; omega), Option.bind_some]
  by_cases h : (l1.length : Int) > 1048576
  · rw [if_pos h]; rfl
  · rw [if_neg h, if_neg (by omega)]
    rw [toRunS_eq l1 (by omega) _ (by omega)]
    simp only [Option.bind_some]
    rw [sNetLoops_eq _ _ (by simp; omega) _ (by simp; omega), iNetLoops_eq _ _ (by simp; omega) _ (by simp; omega)]
    simp only [Option.bind_some, bne_self_eq_false, Bool.false_eq_true, if_false, if_true]
    rw [eqRunS_eq _ (by simp; omega) _ (by simp; omega)]
    simp
end Go.Proofs.Ytbnndmkkmceenaa.Pure
