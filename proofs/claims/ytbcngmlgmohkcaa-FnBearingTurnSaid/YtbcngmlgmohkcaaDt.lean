/- The draw of BearingTurn ends. -/
import Derived.Test.YtbcngmlgmohkcaaDb
import Derived.Test.YtbcngmlgmohkcaaP0x36
namespace Go.Proofs.Ytbcngmlgmohkcaa.Pure
open Go.RowKit Go.Proofs.Ytbcngmlgmohkcaa.P0 Go.Proofs.Ytbcngmlgmohkcaa.Hand Go.Proofs.YtbcngmlgmohkcaaW.PrintWords Go.Proofs.YtbcngmlgmohkcaaW.PrintLast
theorem tot_DrawBearingTurn (l : List Int) (hb : Bytes l) : Tot (fun k => spec_DrawBearingTurn.f k l) (fun r => -9223372036854775808 ≤ r.2.2 ∧ r.2.2 ≤ 9223372036854775807) := by
  unfold spec_DrawBearingTurn.f
  obtain ⟨s, hs, hl, hB⟩ := open_eq l
  have hS := hB hb
  rw [hs]
  simp only [Option.bind_some]
  refine Tot.bind (tot_l91Bearing s hS hl 0 (by omega) (by omega)) ?_
  rintro ⟨x1, x2, x3⟩ hx
  dsimp only at *
  refine Tot.bind (Tot.pick hS hl (by omega) (by omega) (by omega) (by omega)) ?_
  rintro ⟨v, q⟩ ⟨g0, g1, g2⟩
  dsimp only at *
  refine Tot.ite (fun c => ?_) (fun c => ?_)
  · refine Tot.bind (Tot.pick hS hl (by omega) (by omega) (by omega) (by omega)) ?_
    rintro ⟨v2, q2⟩ ⟨g3, g4, g5⟩
    dsimp only at *
    refine Tot.ite (fun c => ?_) (fun c => absurd g3 c)
    refine Tot.ite (fun c => ?_) (fun c => ?_)
    · refine Tot.some ?_
      have hv : v2 = 0 ∨ v2 = 1 := by omega
      rcases hv with rfl | rfl <;> simp [rd]
    · refine absurd ?_ c
      simp; omega
  · refine Tot.bind (Tot.pick hS hl (by omega) (by omega) (by omega) (by omega)) ?_
    rintro ⟨v2, q2⟩ ⟨g3, g4, g5⟩
    dsimp only at *
    refine Tot.some ?_
    dsimp only
    rw [w64 (v2 - 6) (by omega) (by omega)]
    omega
end Go.Proofs.Ytbcngmlgmohkcaa.Pure
