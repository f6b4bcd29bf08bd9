/- The law FnExactNetBack of the printed functions: both sides answer alike, the runs stay, and the answer is new memory. -/
import Derived.Test.YtbnndmkkmceenaaNb
import Derived.Test.YtbnndmkkmceenaaRk
import Derived.Test.YtbnndmkkmceenaaP0x7
namespace Go.Proofs.Ytbnndmkkmceenaa.Pure
open Go.RowKit Go.Proofs.Ytbnndmkkmceenaa.P0 Go.Proofs.YtbnndmkkmceenaaW.PrintWords Go.Proofs.YtbnndmkkmceenaaW.PrintLast
theorem FnExactNetBack : ∀ (a0 : Int) (l1 : List Ln) (a2 : Int), (Lit.int .i64 a0).wf = true → l1.length ≤ maxLen → l1.length * 32 ≤ 140737488351232 → (∀ r ∈ l1, Runs.wfRun r) → (Lit.int .i64 a2).wf = true → ∃ k, laws_FnExactNetBack.f k a0 l1 a2 = some true := by
  intro a0 l1 a2 _ hm _ _ _
  refine ⟨3000000 + 3, ?_⟩
  unfold laws_FnExactNetBack.f
  rw [szRunS_eq l1 (by unfold maxLen at hm; omega), Option.bind_some]
  by_cases h : (l1.length : Int) > 1048576
  · rw [if_pos h]; rfl
  · rw [if_neg h, if_neg (by omega)]
    have hn := netBack_length a0 (l1.map cv) a2
    rw [List.length_map] at hn
    rw [toRunS_eq l1 (by omega) _ (by omega)]
    simp only [Option.bind_some]
    rw [sNetBack_eq _ _ _ (by simp; omega) _ (by simp; omega), iNetBack_eq _ _ _ (by simp; omega) _ (by simp; omega)]
    simp only [Option.bind_some]
    rcases hb : netBack a0 (l1.map cv) a2 with ⟨g, ok⟩
    rw [hb] at hn
    simp only at hn
    rw [eqRunS_eq g (by omega) _ (by omega)]
    simp only [Option.bind_some, if_true, bne_self_eq_false]
    show laws_FnExactNetBack.j0 ((3000000 + 2) + 1) _ _ _ _ _ _ _ _ _ = _
    simp only [laws_FnExactNetBack.j0]
    rw [toRunS_eq l1 (by omega) _ (by omega)]
    simp only [Option.bind_some, Bool.false_eq_true, if_false]
    rw [eqRunS_eq _ (by simp; omega) _ (by simp; omega), markRunS_eq _ 1 (by omega) (by omega) (by simp; omega) _ (by simp; omega)]
    simp only [Option.bind_some, if_true]
    rw [if_neg (by omega), eqRunS_eq g (by omega) _ (by omega)]
    simp only [Option.bind_some, if_true, bne_self_eq_false]
    show laws_FnExactNetBack.j1 ((3000000 + 1) + 1) _ _ _ _ _ _ _ = _
    simp only [laws_FnExactNetBack.j1]
    rw [markRunS_eq g 1 (by omega) (by omega) (by omega) _ (by omega)]
    simp only [Option.bind_some, Bool.false_eq_true, if_false]
    rw [heldRunS_eq 1 g.length (by omega) (by omega) (by omega) _ (by omega)]
    simp only [Option.bind_some, if_true]
    rw [if_neg (by omega), toRunS_eq l1 (by omega) _ (by omega)]
    simp only [Option.bind_some]
    rw [iNetBack_eq _ _ _ (by simp; omega) _ (by simp; omega), hb]
    simp only [Option.bind_some]
    rw [eqRunS_eq g (by omega) _ (by omega)]
    simp only [Option.bind_some, if_true, bne_self_eq_false]
    show laws_FnExactNetBack.j2 (3000000 + 1) _ _ _ = _
    simp only [laws_FnExactNetBack.j2]
    rw [heldRunS_eq 1 g.length (by omega) (by omega) (by omega) _ (by omega)]
    simp only [Option.bind_some, if_true, Bool.false_eq_true, if_false]
    rw [if_neg (by omega)]
end Go.Proofs.Ytbnndmkkmceenaa.Pure
