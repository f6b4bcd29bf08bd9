/- Points, as both sides find them. -/
import Derived.Test.YtbcngmlgmohkcaaPs
import Derived.Test.YtbcngmlgmohkcaaP0x7
namespace Go.Proofs.Ytbcngmlgmohkcaa.Pure
open Go.RowKit Go.Proofs.Ytbcngmlgmohkcaa.P0 Go.Proofs.Ytbcngmlgmohkcaa.Hand Go.Proofs.YtbcngmlgmohkcaaW.PrintWords Go.Proofs.YtbcngmlgmohkcaaW.PrintLast
theorem iPointValid_eq (x y : Int) : impl_PointValid.f x y = some (inB x 10000 && inB y 10000) := by
  unfold impl_PointValid.f impl_pairOf.f
  simp only [Option.bind_some]
  rw [inRange_eq _ _ _ (by omega) (by omega)]; rfl
theorem sPointValid_eq (x y : Int) : spec_PointValid.f x y = some (inB x 10000 && inB y 10000) := by
  unfold spec_PointValid.f
  rw [l6In_in, l6In_in]
  cases inB x 10000 <;> simp
end Go.Proofs.Ytbcngmlgmohkcaa.Pure
