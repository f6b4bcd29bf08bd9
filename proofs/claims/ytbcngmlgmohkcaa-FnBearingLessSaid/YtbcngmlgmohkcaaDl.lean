/- The draw of BearingLess ends. -/
import Derived.Test.YtbcngmlgmohkcaaDb
import Derived.Test.YtbcngmlgmohkcaaP0x38
namespace Go.Proofs.Ytbcngmlgmohkcaa.Pure
open Go.RowKit Go.Proofs.Ytbcngmlgmohkcaa.P0 Go.Proofs.Ytbcngmlgmohkcaa.Hand Go.Proofs.YtbcngmlgmohkcaaW.PrintWords Go.Proofs.YtbcngmlgmohkcaaW.PrintLast
theorem tot_DrawBearingLess (l : List Int) (hb : Bytes l) : Tot (fun k => spec_DrawBearingLess.f k l) (fun _ => True) := by
  unfold spec_DrawBearingLess.f
  obtain ⟨s, hs, hl, hB⟩ := open_eq l
  have hS := hB hb
  rw [hs]
  simp only [Option.bind_some]
  refine Tot.bind (tot_l91Bearing s hS hl 0 (by omega) (by omega)) ?_
  rintro ⟨x1, x2, x3⟩ hx
  dsimp only at *
  refine Tot.bind (tot_l91Bearing s hS hl x3 (by omega) (by omega)) ?_
  rintro ⟨y1, y2, y3⟩ hy
  exact Tot.some trivial
end Go.Proofs.Ytbcngmlgmohkcaa.Pure
