/- The law FnExactBearingTurn of the printed functions: both sides come to the same plain function. -/
import Derived.OpenShut
import Derived.Test.YtbcngmlgmohkcaaPt
import Derived.Test.YtbcngmlgmohkcaaP0x26
namespace Go.Proofs.Ytbcngmlgmohkcaa.Pure
open Go.RowKit Go.Proofs.Ytbcngmlgmohkcaa.P0 Go.Proofs.Ytbcngmlgmohkcaa.Hand Go.Proofs.YtbcngmlgmohkcaaW.PrintWords Go.Proofs.YtbcngmlgmohkcaaW.PrintLast
theorem FnExactBearingTurn (a0_0 a0_1 a1 : Int) (_w0_0 : (Lit.int .i64 a0_0).wf = true) (_w0_1 : (Lit.int .i64 a0_1).wf = true) (w1 : (Lit.int .i64 a1).wf = true) : ∃ k, laws_FnExactBearingTurn.f k a0_0 a0_1 a1 = some true := by
  refine ⟨KK + 5, ?_⟩
  have b := bounds_i64 w1
  unfold laws_FnExactBearingTurn.f laws_toPoint.f
  simp only [Option.bind_some]
  rw [sBearingTurn_eq (KK + 5) (by omega) _ _ _ (by omega) (by omega), iBearingTurn_eq (KK + 5) (by omega) _ _ _ (by omega) (by omega)]
  simp [laws_eqPoint.f]
end Go.Proofs.Ytbcngmlgmohkcaa.Pure
