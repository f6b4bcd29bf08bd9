-- Written by a program (wip/tools/mkprint.py) over the kit's print.
import Derived.Test.YtibnhdbgfodjpaaP0x0
import Derived.Test.YtibnhdbgfodjpaaP1x0
namespace Go.Proofs.Ytibnhdbgfodjpaa.P1
open Go.RowKit Go.Proofs.Ytibnhdbgfodjpaa.Hand Go.Proofs.Ytibnhdbgfodjpaa.P0 Go.Proofs.YtibnhdbgfodjpaaW.PrintWords Go.Proofs.YtibnhdbgfodjpaaW.PrintLast
set_option linter.unusedVariables false
set_option linter.unusedSimpArgs false

theorem eqA24 (d : Nat) (w : World) (x0 y0 : Int) (x1 y1 : Int) :
    (Op.equalIn (d + 2) 24 (.agg #[.int .i64 x0, .int .i64 x1]) (.agg #[.int .i64 y0, .int .i64 y1])).run Try.prog w = .ok (x0 == y0 && (x1 == y1)) w := by
  refine eqA_of Try.underlying24 (by kernel_rfl) ?_
  refine eqf_cons (by rfl) (by go_simp; rfl) (by go_simp; rfl) (by go_simp) ?_
  exact eqf_last (by rfl) (by go_simp; rfl) (by go_simp; rfl) (by go_simp)
end Go.Proofs.Ytibnhdbgfodjpaa.P1
