/- The law FnExactQuoValid of the printed functions: both sides come to the same plain function. -/
import Derived.Test.YtbcngmlgmohkcaaQv
import Derived.Test.YtbcngmlgmohkcaaP0x12
namespace Go.Proofs.Ytbcngmlgmohkcaa.Pure
open Go.RowKit Go.Proofs.Ytbcngmlgmohkcaa.P0 Go.Proofs.Ytbcngmlgmohkcaa.Hand Go.Proofs.YtbcngmlgmohkcaaW.PrintWords Go.Proofs.YtbcngmlgmohkcaaW.PrintLast
theorem FnExactQuoValid (a0_0 a0_1 : Int) (_w0_0 : (Lit.int .i64 a0_0).wf = true) (_w0_1 : (Lit.int .i64 a0_1).wf = true) : ∃ k, laws_FnExactQuoValid.f k a0_0 a0_1 = some true := by
  refine ⟨KK + 5, ?_⟩
  unfold laws_FnExactQuoValid.f laws_toQuo.f
  simp only [Option.bind_some]
  rw [iQuoValid_eq (KK + 5) (by have := KK_eq; omega), sQuoValid_eq (KK + 5) (by have := KK_eq; omega)]
  simp
end Go.Proofs.Ytbcngmlgmohkcaa.Pure
