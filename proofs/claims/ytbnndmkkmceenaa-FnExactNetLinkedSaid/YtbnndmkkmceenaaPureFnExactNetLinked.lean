/- The law FnExactNetLinked of the printed functions. -/
import Derived.Test.YtbnndmkkmceenaaNw
import Derived.Test.YtbnndmkkmceenaaNm
import Derived.Test.YtbnndmkkmceenaaRk
import Derived.Test.YtbnndmkkmceenaaP1x4
namespace Go.Proofs.Ytbnndmkkmceenaa.Pure
set_option linter.unusedVariables false
set_option linter.unusedSimpArgs false
open Go.RowKit Go.Proofs.Ytbnndmkkmceenaa.P0 Go.Proofs.Ytbnndmkkmceenaa.P1 Go.Proofs.YtbnndmkkmceenaaW.PrintWords Go.Proofs.YtbnndmkkmceenaaW.PrintLast
theorem FnExactNetLinked : ∀ (a0 : Int) (l1 : List Ln), (Lit.int .i64 a0).wf = true → l1.length ≤ maxLen → l1.length * 32 ≤ 140737488351232 → (∀ r ∈ l1, Runs.wfRun r) → ∃ k, laws_FnExactNetLinked.f k a0 l1 = some true := by
  intro a0 l1 _ hm _ _
  refine ⟨9000000 + 3, ?_⟩
  unfold laws_FnExactNetLinked.f
  rw [szRunS_eq l1 (by unfold maxLen at hm; omega), Option.bind_some]
  by_cases h : (l1.length : Int) > 1048576
  · rw [if_pos h]; rfl
  · rw [if_neg h, if_neg (by omega)]
    rw [toRunS_eq l1 (by omega) _ (by omega)]
    simp only [Option.bind_some]
    have hn := linked_length a0 (l1.map cv)
    rw [sNetLinked_eq _ _ (by simp; omega) _ (by simp; omega), iNetLinked_eq _ _ (by simp; omega) _ (by simp; omega)]
    simp only [Option.bind_some]
    generalize hg : linked a0 (l1.map cv) = g
    rw [hg] at hn
    rw [eqIntS_eq g (by omega) _ (by omega)]
    simp only [Option.bind_some, if_true]
    rw [eqRunS_eq _ (by simp; omega) _ (by simp; omega)]
    simp only [Option.bind_some, if_true]
    rw [markRunS_eq _ 1 (by omega) (by omega) (by simp; omega) _ (by simp; omega)]
    simp only [Option.bind_some]
    rw [if_neg (by omega)]
    show laws_FnExactNetLinked.j0 ((9000000 + 2) + 1) _ _ _ _ _ = _
    simp only [laws_FnExactNetLinked.j0, Bool.not_true, Bool.false_eq_true, if_false]
    rw [markIntS_eq g 1 (by omega) (by omega) (by omega) _ (by omega)]
    simp only [Option.bind_some]
    rw [heldIntS_eq 1 g.length (by omega) (by omega) (by omega) _ (by omega)]
    simp only [Option.bind_some, if_true]
    rw [if_neg (by omega), toRunS_eq l1 (by omega) _ (by omega)]
    simp only [Option.bind_some]
    rw [iNetLinked_eq _ _ (by simp; omega) _ (by simp; omega), hg]
    simp only [Option.bind_some]
    rw [eqIntS_eq g (by omega) _ (by omega)]
    simp only [Option.bind_some, if_true]
    rw [if_neg (by omega)]
end Go.Proofs.Ytbnndmkkmceenaa.Pure
