/- The draw of QuoOrder ends. -/
import Derived.Test.YtbcngmlgmohkcaaDq
import Derived.Test.YtbcngmlgmohkcaaP0x44
namespace Go.Proofs.Ytbcngmlgmohkcaa.Pure
open Go.RowKit Go.Proofs.Ytbcngmlgmohkcaa.P0 Go.Proofs.Ytbcngmlgmohkcaa.Hand Go.Proofs.YtbcngmlgmohkcaaW.PrintWords Go.Proofs.YtbcngmlgmohkcaaW.PrintLast
theorem tot_DrawQuoOrder (l : List Int) (hb : Bytes l) : Tot (fun k => spec_DrawQuoOrder.f k l) (fun _ => True) := by
  unfold spec_DrawQuoOrder.f
  obtain ⟨s, hs, hl, hB⟩ := open_eq l
  rw [hs]
  simp only [Option.bind_some]
  exact Tot.bind (tot_l91Quos s (hB hb) hl 0 (by omega) (by omega)) (fun _ _ => Tot.some trivial)
end Go.Proofs.Ytbcngmlgmohkcaa.Pure
