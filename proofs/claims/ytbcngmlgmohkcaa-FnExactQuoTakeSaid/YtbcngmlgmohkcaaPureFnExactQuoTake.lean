/- The law FnExactQuoTake of the printed functions: both sides come to the same plain function. -/
import Derived.Test.YtbcngmlgmohkcaaQs
import Derived.Test.YtbcngmlgmohkcaaP1x4
namespace Go.Proofs.Ytbcngmlgmohkcaa.Pure
open Go.RowKit Go.Proofs.Ytbcngmlgmohkcaa.P0 Go.Proofs.Ytbcngmlgmohkcaa.P1 Go.Proofs.Ytbcngmlgmohkcaa.Hand Go.Proofs.YtbcngmlgmohkcaaW.PrintWords Go.Proofs.YtbcngmlgmohkcaaW.PrintLast
theorem FnExactQuoTake (a0_0 a0_1 a1_0 a1_1 : Int) (_w0_0 : (Lit.int .i64 a0_0).wf = true) (_w0_1 : (Lit.int .i64 a0_1).wf = true) (_w1_0 : (Lit.int .i64 a1_0).wf = true) (_w1_1 : (Lit.int .i64 a1_1).wf = true) : ∃ k, laws_FnExactQuoTake.f k a0_0 a0_1 a1_0 a1_1 = some true := by
  refine ⟨KK + 5, ?_⟩
  unfold laws_FnExactQuoTake.f laws_toQuo.f
  simp only [Option.bind_some]
  rw [sQuoTake_eq (KK + 5) (by omega), iQuoTake_eq (KK + 5) (by omega)]
  simp [laws_eqQuo.f]
end Go.Proofs.Ytbcngmlgmohkcaa.Pure
