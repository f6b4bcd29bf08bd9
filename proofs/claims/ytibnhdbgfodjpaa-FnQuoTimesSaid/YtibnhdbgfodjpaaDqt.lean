/- The draw of QuoTimes ends. -/
import Derived.Test.YtibnhdbgfodjpaaDq
import Derived.Test.YtibnhdbgfodjpaaP0x6
namespace Go.Proofs.Ytibnhdbgfodjpaa.Pure
open Go.RowKit Go.Proofs.Ytibnhdbgfodjpaa.P0 Go.Proofs.Ytibnhdbgfodjpaa.Hand Go.Proofs.YtibnhdbgfodjpaaW.PrintWords Go.Proofs.YtibnhdbgfodjpaaW.PrintLast
theorem tot_DrawQuoTimes (l : List Int) (hb : Bytes l) : Tot (fun k => spec_DrawQuoTimes.f k l) (fun _ => True) := by
  unfold spec_DrawQuoTimes.f
  obtain ⟨s, hs, hl, hB⟩ := open_eq l
  rw [hs]
  simp only [Option.bind_some]
  exact Tot.bind (tot_l91Quos s (hB hb) hl 0 (by omega) (by omega)) (fun _ _ => Tot.some trivial)
end Go.Proofs.Ytibnhdbgfodjpaa.Pure
