/- The draw of BearingOf ends. -/
import Derived.Test.YtbcngmlgmohkcaaTot
import Derived.Test.YtbcngmlgmohkcaaP0x32
namespace Go.Proofs.Ytbcngmlgmohkcaa.Pure
open Go.RowKit Go.Proofs.Ytbcngmlgmohkcaa.P0 Go.Proofs.Ytbcngmlgmohkcaa.Hand Go.Proofs.YtbcngmlgmohkcaaW.PrintWords Go.Proofs.YtbcngmlgmohkcaaW.PrintLast
theorem tot_l91Point (s : List Int) (hS : Bytes s) (hl : s.length ≤ 2000) (p : Int) (h0 : 0 ≤ p) (h1 : p ≤ 1000) : Tot (fun k => spec_l91Point.f k s p) (fun r => p ≤ r.2.2 ∧ r.2.2 ≤ p + 10) := by
  unfold spec_l91Point.f
  simp only [Option.bind_some]
  repeat' first
    | (refine Tot.some ?_; dsimp only; omega)
    | (refine Tot.bind (Tot.pick hS hl (by omega) (by omega) (by omega) (by omega)) ?_; rintro ⟨v, q⟩ ⟨g0, g1, g2⟩; dsimp only at *)
    | (refine Tot.ite (fun c => ?_) (fun c => ?_))
    | (refine absurd ?_ c; first | omega | (simp; omega))
theorem tot_DrawBearingOf (l : List Int) (hb : Bytes l) : Tot (fun k => spec_DrawBearingOf.f k l) (fun _ => True) := by
  unfold spec_DrawBearingOf.f
  obtain ⟨s, hs, hl, hB⟩ := open_eq l
  have hS := hB hb
  rw [hs]
  simp only [Option.bind_some]
  refine Tot.bind (tot_l91Point s hS hl 0 (by omega) (by omega)) ?_
  rintro ⟨x1, x2, x3⟩ hx
  dsimp only at *
  repeat' first
    | exact Tot.some trivial
    | (refine Tot.bind (Tot.pick hS hl (by omega) (by omega) (by omega) (by omega)) ?_; rintro ⟨v, q⟩ ⟨g0, g1, g2⟩; dsimp only at *)
    | (refine Tot.ite (fun c => ?_) (fun c => ?_))
    | (refine absurd ?_ c; first | omega | (simp; omega))
end Go.Proofs.Ytbcngmlgmohkcaa.Pure
