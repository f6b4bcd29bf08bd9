/- The law FnExactQuoText of the printed functions. -/
import Derived.Test.YtibnhdbgfodjpaaDoorT2
import Derived.Test.YtibnhdbgfodjpaaDoorQv
import Derived.Test.YtibnhdbgfodjpaaDoorP0x3
import Derived.Test.YtibnhdbgfodjpaaDoorP0x4
import Derived.Test.YtibnhdbgfodjpaaDoorP1x1
namespace Go.Proofs.YtibnhdbgfodjpaaDoor.Pure
set_option linter.unusedSimpArgs false
set_option linter.unusedVariables false
open Go.RowKit Go.Proofs.YtibnhdbgfodjpaaDoor.P0 Go.Proofs.YtibnhdbgfodjpaaDoor.P1 Go.Proofs.YtibnhdbgfodjpaaDoor.Hand Go.Proofs.YtibnhdbgfodjpaaDoorW.PrintWords Go.Proofs.YtibnhdbgfodjpaaDoorW.PrintLast
theorem FnExactQuoText (a0_0 a0_1 : Int) (_w0_0 : (Lit.int .i64 a0_0).wf = true) (_w0_1 : (Lit.int .i64 a0_1).wf = true) : ∃ k, laws_FnExactQuoText.f k a0_0 a0_1 = some true := by
  refine ⟨KK + 50, ?_⟩
  unfold laws_FnExactQuoText.f laws_toQuo.f
  simp only [Option.bind_some]
  rw [sQuoText_eq (KK + 50) (by omega)]
  simp only [impl_QuoText.f, Option.bind_some, if_true]
end Go.Proofs.YtibnhdbgfodjpaaDoor.Pure
