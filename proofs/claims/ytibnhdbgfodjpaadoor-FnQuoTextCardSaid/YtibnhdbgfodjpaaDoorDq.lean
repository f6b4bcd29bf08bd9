/- The draws of quotients end. -/
import Derived.Test.YtibnhdbgfodjpaaDoorTot
import Derived.Test.YtibnhdbgfodjpaaDoorQo
import Derived.Test.YtibnhdbgfodjpaaDoorP0x6
namespace Go.Proofs.YtibnhdbgfodjpaaDoor.Pure
open Go.RowKit Go.Proofs.YtibnhdbgfodjpaaDoor.P0 Go.Proofs.YtibnhdbgfodjpaaDoor.Hand Go.Proofs.YtibnhdbgfodjpaaDoorW.PrintWords Go.Proofs.YtibnhdbgfodjpaaDoorW.PrintLast
theorem tot_l91Quo (s : List Int) (hS : Bytes s) (hl : s.length ≤ 2000) (p : Int) (h0 : 0 ≤ p) (h1 : p ≤ 1000) : Tot (fun k => spec_l91Quo.f k s p) (fun r => p ≤ r.2.2 ∧ r.2.2 ≤ p + 10) := by
  unfold spec_l91Quo.f
  simp only [Option.bind_some]
  refine Tot.bind (Tot.pick hS hl (by omega) (by omega) (by omega) (by omega)) ?_
  rintro ⟨v1, p1⟩ ⟨g0, g1, g2⟩
  dsimp only at *
  refine Tot.bind (Tot.pick hS hl (by omega) (by omega) (by omega) (by omega)) ?_
  rintro ⟨v2, p2⟩ ⟨g3, g4, g5⟩
  dsimp only at *
  refine Tot.bind (Tot.is (fun k hk => sQuoOf_eq k (by omega) _ _)) ?_
  rintro ⟨x1, x2, x3⟩ hx
  dsimp only at *
  repeat' first
    | (refine Tot.some ?_; dsimp only; omega)
    | (refine Tot.bind (Tot.pick hS hl (by omega) (by omega) (by omega) (by omega)) ?_; rintro ⟨v, q⟩ ⟨g0, g1, g2⟩; dsimp only at *)
    | (refine Tot.ite (fun c => ?_) (fun c => ?_))
    | (refine absurd ?_ c; first | omega | (simp; omega))
end Go.Proofs.YtibnhdbgfodjpaaDoor.Pure
