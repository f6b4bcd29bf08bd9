/- The law FnExactTreeFirst of the printed functions. -/
import Derived.Test.YtbnndmkkmceenaaNt
import Derived.Test.YtbnndmkkmceenaaNm
import Derived.Test.YtbnndmkkmceenaaRk
import Derived.Test.YtbnndmkkmceenaaP1x7
namespace Go.Proofs.Ytbnndmkkmceenaa.Pure
set_option linter.unusedVariables false
set_option linter.unusedSimpArgs false
open Go.RowKit Go.Proofs.Ytbnndmkkmceenaa.P0 Go.Proofs.Ytbnndmkkmceenaa.P1 Go.Proofs.YtbnndmkkmceenaaW.PrintWords Go.Proofs.YtbnndmkkmceenaaW.PrintLast
theorem FnExactTreeFirst : ∀ (a0 : Int) (l1 : List Ln), (Lit.int .i64 a0).wf = true → l1.length ≤ maxLen → l1.length * 32 ≤ 140737488351232 → (∀ r ∈ l1, Runs.wfRun r) → ∃ k, laws_FnExactTreeFirst.f k a0 l1 = some true := by
  intro a0 l1 _ hm _ _
  refine ⟨9000000 + 3, ?_⟩
  unfold laws_FnExactTreeFirst.f
  rw [szRunS_eq l1 (by unfold maxLen at hm; omega), Option.bind_some]
  by_cases h : (l1.length : Int) > 1048576
  · rw [if_pos h]; rfl
  · rw [if_neg h, if_neg (by omega)]
    rw [toRunS_eq l1 (by omega) _ (by omega)]
    simp only [Option.bind_some]
    have hn := treeFirst_length a0 (l1.map cv)
    rw [sTreeFirst_eq _ _ (by simp; omega) _ (by simp; omega), iTreeFirst_eq _ _ (by simp; omega) _ (by simp; omega)]
    simp only [Option.bind_some]
    rcases hg : treeFirst a0 (l1.map cv) with ⟨g, ok⟩
    rw [hg] at hn
    simp only [List.length_map] at hn
    simp only
    rw [eqIntS_eq g (by omega) _ (by omega)]
    simp only [Option.bind_some, if_true, bne_self_eq_false]
    show laws_FnExactTreeFirst.j0 ((9000000 + 2) + 1) _ _ _ _ _ _ _ _ = _
    simp only [laws_FnExactTreeFirst.j0, Bool.false_eq_true, if_false]
    rw [toRunS_eq l1 (by omega) _ (by omega)]
    simp only [Option.bind_some]
    rw [eqRunS_eq _ (by simp; omega) _ (by simp; omega)]
    simp only [Option.bind_some, if_true]
    rw [markRunS_eq _ 1 (by omega) (by omega) (by simp; omega) _ (by simp; omega)]
    simp only [Option.bind_some]
    rw [if_neg (by omega), eqIntS_eq g (by omega) _ (by omega)]
    simp only [Option.bind_some, if_true, bne_self_eq_false]
    show laws_FnExactTreeFirst.j1 ((9000000 + 1) + 1) _ _ _ _ _ _ = _
    simp only [laws_FnExactTreeFirst.j1, Bool.false_eq_true, if_false]
    rw [markIntS_eq g 1 (by omega) (by omega) (by omega) _ (by omega)]
    simp only [Option.bind_some]
    rw [heldIntS_eq 1 g.length (by omega) (by omega) (by omega) _ (by omega)]
    simp only [Option.bind_some, if_true]
    rw [if_neg (by omega), toRunS_eq l1 (by omega) _ (by omega)]
    simp only [Option.bind_some]
    rw [iTreeFirst_eq _ _ (by simp; omega) _ (by simp; omega), hg]
    simp only [Option.bind_some]
    rw [eqIntS_eq g (by omega) _ (by omega)]
    simp only [Option.bind_some, if_true, bne_self_eq_false]
    show laws_FnExactTreeFirst.j2 (9000000 + 1) _ _ _ = _
    simp only [laws_FnExactTreeFirst.j2, Bool.false_eq_true, if_false]
    rw [heldIntS_eq 1 g.length (by omega) (by omega) (by omega) _ (by omega)]
    simp only [Option.bind_some, if_true]
    rw [if_neg (by omega)]
end Go.Proofs.Ytbnndmkkmceenaa.Pure
