/- The law FnExactQuoAdd of the printed functions: both sides come to the same plain function. -/
import Derived.Test.YtbcngmlgmohkcaaQa
import Derived.Test.YtbcngmlgmohkcaaHq
import Derived.Test.YtbcngmlgmohkcaaP1x2
namespace Go.Proofs.Ytbcngmlgmohkcaa.Pure
open Go.RowKit Go.Proofs.Ytbcngmlgmohkcaa.P0 Go.Proofs.Ytbcngmlgmohkcaa.P1 Go.Proofs.Ytbcngmlgmohkcaa.Hand Go.Proofs.YtbcngmlgmohkcaaW.PrintWords Go.Proofs.YtbcngmlgmohkcaaW.PrintLast
theorem FnExactQuoAdd (a0_0 a0_1 a1_0 a1_1 : Int) (_w0_0 : (Lit.int .i64 a0_0).wf = true) (_w0_1 : (Lit.int .i64 a0_1).wf = true) (_w1_0 : (Lit.int .i64 a1_0).wf = true) (_w1_1 : (Lit.int .i64 a1_1).wf = true) : ∃ k, laws_FnExactQuoAdd.f k a0_0 a0_1 a1_0 a1_1 = some true := by
  refine ⟨KK + 5, ?_⟩
  unfold laws_FnExactQuoAdd.f laws_toQuo.f
  simp only [Option.bind_some]
  rw [sQuoAdd_eq (KK + 5) (by omega)]
  simp [laws_eqQuo.f, impl_QuoAdd.f]
end Go.Proofs.Ytbcngmlgmohkcaa.Pure
