/- BearingBack, as both sides come to it. -/
import Derived.Test.YtbcngmlgmohkcaaPs
import Derived.Test.YtbcngmlgmohkcaaP0x21
namespace Go.Proofs.Ytbcngmlgmohkcaa.Pure
open Go.RowKit Go.Proofs.Ytbcngmlgmohkcaa.P0 Go.Proofs.Ytbcngmlgmohkcaa.Hand Go.Proofs.YtbcngmlgmohkcaaW.PrintWords Go.Proofs.YtbcngmlgmohkcaaW.PrintLast
def bearBack (x y : Int) : Int × Int × Bool := if bear x y = true then (-x, -y, true) else (0, 0, false)
theorem sBearingBack_eq (k : Nat) (hk : KK ≤ k) (x y : Int) : spec_BearingBack.f k x y = some (bearBack x y) := by
  unfold spec_BearingBack.f bearBack
  rw [sBear_eq k hk]
  simp only [Option.bind_some]
  by_cases h : bear x y = true
  · have g := bear_bd h
    rw [if_pos h, if_pos h, w64 _ (by omega) (by omega), w64 _ (by omega) (by omega)]
  · rw [if_neg h, if_neg h]
theorem iBearingBack_eq (k : Nat) (hk : KK ≤ k) (x y : Int) : impl_BearingBack.f k x y = some (bearBack x y) := by
  unfold impl_BearingBack.f bearBack
  rw [iBear_eq k hk]
  simp only [Option.bind_some]
  by_cases h : bear x y = true
  · have g := bear_bd h
    rw [if_pos h, if_pos h, w64 _ (by omega) (by omega), w64 _ (by omega) (by omega)]
  · rw [if_neg h, if_neg h]
end Go.Proofs.Ytbcngmlgmohkcaa.Pure
