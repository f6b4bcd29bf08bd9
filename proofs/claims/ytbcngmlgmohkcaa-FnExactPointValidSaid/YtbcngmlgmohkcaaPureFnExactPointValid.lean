/- The law FnExactPointValid of the printed functions: both sides come to the same plain function. -/
import Derived.Test.YtbcngmlgmohkcaaPp
import Derived.Test.YtbcngmlgmohkcaaP0x9
namespace Go.Proofs.Ytbcngmlgmohkcaa.Pure
open Go.RowKit Go.Proofs.Ytbcngmlgmohkcaa.P0 Go.Proofs.Ytbcngmlgmohkcaa.Hand Go.Proofs.YtbcngmlgmohkcaaW.PrintWords Go.Proofs.YtbcngmlgmohkcaaW.PrintLast
theorem FnExactPointValid (a0_0 a0_1 : Int) (_w0_0 : (Lit.int .i64 a0_0).wf = true) (_w0_1 : (Lit.int .i64 a0_1).wf = true) : laws_FnExactPointValid.f a0_0 a0_1 = some true := by
  unfold laws_FnExactPointValid.f laws_toPoint.f
  simp only [Option.bind_some]
  rw [iPointValid_eq, sPointValid_eq]
  simp
end Go.Proofs.Ytbcngmlgmohkcaa.Pure
