/- The law FnExactBearingText of the printed functions. -/
import Derived.Test.YtibnhdbgfodjpaaDoorT3
import Derived.Test.YtibnhdbgfodjpaaDoorP0x4
import Derived.Test.YtibnhdbgfodjpaaDoorP1x3
namespace Go.Proofs.YtibnhdbgfodjpaaDoor.Pure
set_option linter.unusedSimpArgs false
set_option linter.unusedVariables false
open Go.RowKit Go.Proofs.YtibnhdbgfodjpaaDoor.P0 Go.Proofs.YtibnhdbgfodjpaaDoor.P1 Go.Proofs.YtibnhdbgfodjpaaDoor.Hand Go.Proofs.YtibnhdbgfodjpaaDoorW.PrintWords Go.Proofs.YtibnhdbgfodjpaaDoorW.PrintLast
theorem FnExactBearingText (a0_0 a0_1 : Int) (_w0_0 : (Lit.int .i64 a0_0).wf = true) (_w0_1 : (Lit.int .i64 a0_1).wf = true) : ∃ k, laws_FnExactBearingText.f k a0_0 a0_1 = some true := by
  refine ⟨KK + 60, ?_⟩
  unfold laws_FnExactBearingText.f laws_toPoint.f
  simp only [Option.bind_some]
  rw [sBearingText_eq (KK + 60) (by omega), iBearingText_eq (KK + 60) (by omega)]
  simp only [Option.bind_some, if_true]
end Go.Proofs.YtibnhdbgfodjpaaDoor.Pure
