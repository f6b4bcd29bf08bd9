/- The law FnExactQuoOrder of the printed functions: both sides come to the same plain function. -/
import Derived.Test.YtbcngmlgmohkcaaQd
import Derived.Test.YtbcngmlgmohkcaaP0x20
namespace Go.Proofs.Ytbcngmlgmohkcaa.Pure
open Go.RowKit Go.Proofs.Ytbcngmlgmohkcaa.P0 Go.Proofs.Ytbcngmlgmohkcaa.Hand Go.Proofs.YtbcngmlgmohkcaaW.PrintWords Go.Proofs.YtbcngmlgmohkcaaW.PrintLast
theorem FnExactQuoOrder (a0_0 a0_1 a1_0 a1_1 : Int) (_w0_0 : (Lit.int .i64 a0_0).wf = true) (_w0_1 : (Lit.int .i64 a0_1).wf = true) (_w1_0 : (Lit.int .i64 a1_0).wf = true) (_w1_1 : (Lit.int .i64 a1_1).wf = true) : ∃ k, laws_FnExactQuoOrder.f k a0_0 a0_1 a1_0 a1_1 = some true := by
  refine ⟨KK + 5, ?_⟩
  unfold laws_FnExactQuoOrder.f laws_toQuo.f
  simp only [Option.bind_some]
  rw [iQuoOrder_eq (KK + 5) (by have := KK_eq; omega), sQuoOrder_eq (KK + 5) (by have := KK_eq; omega)]
  simp
end Go.Proofs.Ytbcngmlgmohkcaa.Pure
