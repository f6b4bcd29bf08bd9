/- The draw of QuoOf ends. -/
import Derived.Test.YtbcngmlgmohkcaaTot
import Derived.Test.YtbcngmlgmohkcaaP0x29
namespace Go.Proofs.Ytbcngmlgmohkcaa.Pure
open Go.RowKit Go.Proofs.Ytbcngmlgmohkcaa.P0 Go.Proofs.Ytbcngmlgmohkcaa.Hand Go.Proofs.YtbcngmlgmohkcaaW.PrintWords Go.Proofs.YtbcngmlgmohkcaaW.PrintLast
theorem tot_DrawQuoOf (l : List Int) (hb : Bytes l) : Tot (fun k => spec_DrawQuoOf.f k l) (fun _ => True) := by
  unfold spec_DrawQuoOf.f
  obtain ⟨s, hs, hl, hB⟩ := open_eq l
  have hS := hB hb
  rw [hs]
  simp only [Option.bind_some]
  repeat' first
    | exact Tot.some trivial
    | (refine Tot.bind (Tot.pick hS hl (by omega) (by omega) (by omega) (by omega)) ?_; rintro ⟨v, q⟩ ⟨g0, g1, g2⟩; dsimp only at *)
    | (refine Tot.ite (fun c => ?_) (fun c => ?_))
    | (refine absurd ?_ c; first | omega | (simp; omega))
end Go.Proofs.Ytbcngmlgmohkcaa.Pure
