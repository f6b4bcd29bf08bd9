/- The law FnExactBearingOf of the printed functions: both sides come to the same plain function. -/
import Derived.Test.YtbcngmlgmohkcaaPo
import Derived.Test.YtbcngmlgmohkcaaP0x17
namespace Go.Proofs.Ytbcngmlgmohkcaa.Pure
open Go.RowKit Go.Proofs.Ytbcngmlgmohkcaa.P0 Go.Proofs.Ytbcngmlgmohkcaa.Hand Go.Proofs.YtbcngmlgmohkcaaW.PrintWords Go.Proofs.YtbcngmlgmohkcaaW.PrintLast
theorem FnExactBearingOf (a0_0 a0_1 : Int) (_w0_0 : (Lit.int .i64 a0_0).wf = true) (_w0_1 : (Lit.int .i64 a0_1).wf = true) : ∃ k, laws_FnExactBearingOf.f k a0_0 a0_1 = some true := by
  refine ⟨KK + 5, ?_⟩
  unfold laws_FnExactBearingOf.f laws_toPoint.f
  simp only [Option.bind_some]
  rw [iBearingOf_eq (KK + 5) (by have := KK_eq; omega), sBearingOf_eq (KK + 5) (by have := KK_eq; omega)]
  simp [laws_eqPoint.f]
end Go.Proofs.Ytbcngmlgmohkcaa.Pure
