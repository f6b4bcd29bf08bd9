/- The law FnExactLoopError of the printed functions: both sides answer alike, and the arguments stay. -/
import Derived.Test.YtbnndmkkmceenaaNl
import Derived.Test.YtbnndmkkmceenaaRk
import Derived.Test.YtbnndmkkmceenaaP0x13
namespace Go.Proofs.Ytbnndmkkmceenaa.Pure
open Go.RowKit Go.Proofs.Ytbnndmkkmceenaa.P0 Go.Proofs.YtbnndmkkmceenaaW.PrintWords Go.Proofs.YtbnndmkkmceenaaW.PrintLast
theorem FnExactLoopError : ∀ (a0 : Int) (l1 : List Ln) (l2 : List Int), (Lit.int .i64 a0).wf = true → l1.length ≤ maxLen → l1.length * 32 ≤ 140737488351232 → (∀ r ∈ l1, Runs.wfRun r) → l2.length ≤ maxLen → l2.length * 8 ≤ 140737488351232 → (∀ x ∈ l2, (Lit.int .i64 x).wf = true) → ∃ k, laws_FnExactLoopError.f k a0 l1 l2 = some true := by
  intro a0 l1 l2 _ hm _ _ _ _ _
  refine ⟨9000000 + 1, ?_⟩
  unfold laws_FnExactLoopError.f
  by_cases hc : (l2.length : Int) > 1048576
  · rw [if_pos hc]
  rw [if_neg hc, szRunS_eq l1 (by unfold maxLen at hm; omega), Option.bind_some]
  by_cases h : (l1.length : Int) > 1048576
  · rw [if_pos h]; rfl
  · rw [if_neg h, if_neg (by omega)]
    rw [toRunS_eq l1 (by omega) _ (by omega), toIntS_eq l2 (by omega) _ (by omega)]
    simp only [Option.bind_some]
    rw [sLoopError_eq _ _ _ (by simp; omega) (by omega) _ (by simp; omega), iLoopError_eq _ _ _ (by simp; omega) (by omega) _ (by simp; omega)]
    simp only [Option.bind_some, bne_self_eq_false, if_true]
    show laws_FnExactLoopError.j0 (9000000 + 1) _ _ _ _ _ = _
    simp only [laws_FnExactLoopError.j0]
    rw [toRunS_eq l1 (by omega) _ (by omega), toIntS_eq l2 (by omega) _ (by omega)]
    simp only [Option.bind_some, Bool.false_eq_true, if_false]
    rw [eqRunS_eq _ (by simp; omega) _ (by simp; omega), eqIntS_eq _ (by omega) _ (by omega)]
    simp
end Go.Proofs.Ytbnndmkkmceenaa.Pure
