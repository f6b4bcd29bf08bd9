/- The law FnExactQuoOf of the printed functions: both sides come to the same plain function. -/
import Derived.Test.YtbcngmlgmohkcaaQo
import Derived.Test.YtbcngmlgmohkcaaP0x24
namespace Go.Proofs.Ytbcngmlgmohkcaa.Pure
open Go.RowKit Go.Proofs.Ytbcngmlgmohkcaa.P0 Go.Proofs.Ytbcngmlgmohkcaa.Hand Go.Proofs.YtbcngmlgmohkcaaW.PrintWords Go.Proofs.YtbcngmlgmohkcaaW.PrintLast
theorem FnExactQuoOf (a0 a1 : Int) (_w0 : (Lit.int .i64 a0).wf = true) (_w1 : (Lit.int .i64 a1).wf = true) : ∃ k, laws_FnExactQuoOf.f k a0 a1 = some true := by
  refine ⟨KK + 5, ?_⟩
  unfold laws_FnExactQuoOf.f
  rw [sQuoOf_eq (KK + 5) (by omega), iQuoOf_eq (KK + 5) (by omega)]
  simp [laws_eqQuo.f]
end Go.Proofs.Ytbcngmlgmohkcaa.Pure
