/- The law FnExactLoopBack of the printed functions: both sides answer alike, the arguments stay, and the answer is new memory. -/
import Derived.Test.YtbnndmkkmceenaaNk
import Derived.Test.YtbnndmkkmceenaaRk
import Derived.Test.YtbnndmkkmceenaaP0x14
namespace Go.Proofs.Ytbnndmkkmceenaa.Pure
set_option linter.unusedVariables false
set_option linter.unusedSimpArgs false
open Go.RowKit Go.Proofs.Ytbnndmkkmceenaa.P0 Go.Proofs.YtbnndmkkmceenaaW.PrintWords Go.Proofs.YtbnndmkkmceenaaW.PrintLast
theorem FnExactLoopBack : ∀ (a0 : Int) (l1 : List Ln) (l2 : List Int), (Lit.int .i64 a0).wf = true → l1.length ≤ maxLen → l1.length * 32 ≤ 140737488351232 → (∀ r ∈ l1, Runs.wfRun r) → l2.length ≤ maxLen → l2.length * 8 ≤ 140737488351232 → (∀ x ∈ l2, (Lit.int .i64 x).wf = true) → ∃ k, laws_FnExactLoopBack.f k a0 l1 l2 = some true := by
  intro a0 l1 l2 _ hm _ _ _ _ _
  refine ⟨9000000 + 3, ?_⟩
  unfold laws_FnExactLoopBack.f
  by_cases hc : (l2.length : Int) > 1048576
  · rw [if_pos hc]
  rw [if_neg hc, szRunS_eq l1 (by unfold maxLen at hm; omega), Option.bind_some]
  by_cases h : (l1.length : Int) > 1048576
  · rw [if_pos h]; rfl
  · rw [if_neg h, if_neg (by omega)]
    have hn := loopBack_length a0 (l1.map cv) l2
    rw [toRunS_eq l1 (by omega) _ (by omega), toIntS_eq l2 (by omega) _ (by omega)]
    simp only [Option.bind_some]
    rw [sLoopBack_eq _ _ _ (by simp; omega) (by omega) _ (by simp; omega), iLoopBack_eq _ _ _ (by simp; omega) (by omega) _ (by simp; omega)]
    simp only [Option.bind_some]
    rcases hb : loopBack a0 (l1.map cv) l2 with ⟨g, ok⟩
    rw [hb] at hn
    simp only at hn
    rw [eqIntS_eq g (by omega) _ (by omega)]
    simp only [Option.bind_some, if_true, bne_self_eq_false]
    show laws_FnExactLoopBack.j0 ((9000000 + 2) + 1) _ _ _ _ _ _ _ _ _ _ = _
    simp only [laws_FnExactLoopBack.j0]
    rw [toRunS_eq l1 (by omega) _ (by omega), toIntS_eq l2 (by omega) _ (by omega)]
    simp only [Option.bind_some, Bool.false_eq_true, if_false]
    rw [eqRunS_eq _ (by simp; omega) _ (by simp; omega), eqIntS_eq l2 (by omega) _ (by omega), markRunS_eq _ 1 (by omega) (by omega) (by simp; omega) _ (by simp; omega)]
    simp only [Option.bind_some, if_true]
    rw [markIntS_eq l2 _ (by omega) (by simp; omega) (by omega) _ (by omega)]
    simp only [Option.bind_some, if_true]
    rw [if_neg (by omega), eqIntS_eq g (by omega) _ (by omega)]
    simp only [Option.bind_some, if_true, bne_self_eq_false]
    show laws_FnExactLoopBack.j1 ((9000000 + 1) + 1) _ _ _ _ _ _ _ = _
    simp only [laws_FnExactLoopBack.j1]
    rw [markIntS_eq g 1 (by omega) (by omega) (by omega) _ (by omega)]
    simp only [Option.bind_some, Bool.false_eq_true, if_false]
    rw [heldIntS_eq 1 g.length (by omega) (by omega) (by omega) _ (by omega)]
    simp only [Option.bind_some, if_true]
    rw [if_neg (by omega), toRunS_eq l1 (by omega) _ (by omega), toIntS_eq l2 (by omega) _ (by omega)]
    simp only [Option.bind_some]
    rw [iLoopBack_eq _ _ _ (by simp; omega) (by omega) _ (by simp; omega), hb]
    simp only [Option.bind_some]
    rw [eqIntS_eq g (by omega) _ (by omega)]
    simp only [Option.bind_some, if_true, bne_self_eq_false]
    show laws_FnExactLoopBack.j2 (9000000 + 1) _ _ _ = _
    simp only [laws_FnExactLoopBack.j2]
    rw [heldIntS_eq 1 g.length (by omega) (by omega) (by omega) _ (by omega)]
    simp only [Option.bind_some, if_true, Bool.false_eq_true, if_false]
    rw [if_neg (by omega)]
end Go.Proofs.Ytbnndmkkmceenaa.Pure
