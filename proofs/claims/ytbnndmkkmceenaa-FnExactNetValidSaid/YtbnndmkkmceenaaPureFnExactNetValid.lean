/- The law FnExactNetValid of the printed functions: both sides answer alike, and the runs stay. -/
import Derived.Test.YtbnndmkkmceenaaNv
import Derived.Test.YtbnndmkkmceenaaRk
import Derived.Test.YtbnndmkkmceenaaP0x4
namespace Go.Proofs.Ytbnndmkkmceenaa.Pure
open Go.RowKit Go.Proofs.Ytbnndmkkmceenaa.P0 Go.Proofs.YtbnndmkkmceenaaW.PrintWords Go.Proofs.YtbnndmkkmceenaaW.PrintLast
theorem FnExactNetValid : ∀ (a0 : Int) (l1 : List Ln), (Lit.int .i64 a0).wf = true → l1.length ≤ maxLen → l1.length * 32 ≤ 140737488351232 → (∀ r ∈ l1, Runs.wfRun r) → ∃ k, laws_FnExactNetValid.f k a0 l1 = some true := by
  intro a0 l1 _ hm _ _
  refine ⟨3000000, ?_⟩
  unfold laws_FnExactNetValid.f
  rw [szRunS_eq l1 (by unfold maxLen at hm; omega), Option.bind_some]
  by_cases h : (l1.length : Int) > 1048576
  · rw [if_pos h]; rfl
  · rw [if_neg h, if_neg (by omega)]
    rw [toRunS_eq l1 (by omega) _ (by omega)]
    simp only [Option.bind_some]
    rw [sNetValid_eq _ _ (by simp; omega) _ (by simp; omega), iNetValid_eq _ _ (by simp; omega) _ (by simp; omega)]
    simp only [Option.bind_some, bne_self_eq_false, Bool.false_eq_true, if_false]
    rw [eqRunS_eq _ (by simp; omega) _ (by simp; omega)]
    simp
end Go.Proofs.Ytbnndmkkmceenaa.Pure
