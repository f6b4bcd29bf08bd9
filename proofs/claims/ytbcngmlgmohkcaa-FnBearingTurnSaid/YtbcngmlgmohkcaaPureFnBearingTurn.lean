/- The law FnBearingTurn of the printed functions: quarter turns come back, two are the opposite, quarters add up. -/
import Derived.Test.YtbcngmlgmohkcaaDt
import Derived.Test.YtbcngmlgmohkcaaPt
import Derived.Test.YtbcngmlgmohkcaaPk
import Derived.Test.YtbcngmlgmohkcaaPh
import Derived.Test.YtbcngmlgmohkcaaMd
import Derived.Test.YtbcngmlgmohkcaaP0x37
namespace Go.Proofs.Ytbcngmlgmohkcaa.Pure
open Go.RowKit Go.Proofs.Ytbcngmlgmohkcaa.P0 Go.Proofs.Ytbcngmlgmohkcaa.Hand Go.Proofs.YtbcngmlgmohkcaaW.PrintWords Go.Proofs.YtbcngmlgmohkcaaW.PrintLast
theorem FnBearingTurn : ∀ (l0 : List Int), l0.length ≤ maxLen → l0.length * 1 ≤ 140737488351232 → (∀ x ∈ l0, (Lit.int .u8 x).wf = true) → ∃ k, laws_FnBearingTurn.f k l0 = some true := by
  intro l0 _ _ hw
  obtain ⟨⟨x, y, j⟩, hd, hj0, hj1⟩ := tot_DrawBearingTurn l0 (Bytes.of_wf hw)
  dsimp only at hj0 hj1
  refine ⟨KK + 200, ?_⟩
  unfold laws_FnBearingTurn.f
  by_cases hlen : (l0.length : Int) > 1048576
  · rw [if_pos hlen]
  · have hd2 : spec_DrawBearingTurn.f (KK + 200) l0 = some (x, y, j) := hd _ (by omega)
    rw [if_neg hlen, hd2]
    simp only [Option.bind_some]
    rw [iBearingTurn_eq (KK + 200) (by omega) x y j hj0 hj1, sBearingTurn_eq (KK + 200) (by omega) x y j hj0 hj1]
    simp only [Option.bind_some, bne_self_eq_false, Bool.false_eq_true, if_false, beq_self_eq_true, Bool.not_true, Bool.or_self]
    by_cases hb : bear x y = true
    · have ht : turns j ≤ 3 := by unfold turns; omega
      have e : bearTurn x y j = ((turnN (turns j) (x, y)).1, (turnN (turns j) (x, y)).2, true) := by unfold bearTurn; rw [if_pos hb]
      have q1 := quarter_turnN (turns j) hb
      have hb2 := bear_turnN (turns j) hb
      have back : turnN (turns (Int.tmod (wrap64 (4 - (turns j : Int))) 4)) (turnN (turns j) (x, y)) = (x, y) := by
        rw [w64 _ (by omega) (by omega), Int.tmod_eq_emod_of_nonneg (by omega), turnN_add]
        have hs : turns j + turns ((4 - (turns j : Int)) % 4) = 0 ∨ turns j + turns ((4 - (turns j : Int)) % 4) = 4 := by unfold turns at *; omega
        rcases hs with hs | hs
        · rw [hs]; rfl
        · rw [hs]; exact turn4 _
      have rng : -9223372036854775808 ≤ Int.tmod (wrap64 (4 - (turns j : Int))) 4 ∧ Int.tmod (wrap64 (4 - (turns j : Int))) 4 ≤ 9223372036854775807 := by
        rw [w64 _ (by omega) (by omega), Int.tmod_eq_emod_of_nonneg (by omega)]; omega
      rw [e]
      generalize turnN (turns j) (x, y) = t at *
      obtain ⟨u, v⟩ := t
      simp only at *
      show laws_FnBearingTurn.j0 ((KK + 199) + 1) j true true (!true) x y u v u v = some true
      simp only [laws_FnBearingTurn.j0, Bool.not_true, Bool.false_eq_true, if_false]
      rw [turns_eq j hj0 hj1]
      rw [iBearingTurn_eq (KK + 199) (by omega) u v _ rng.1 rng.2, iBearingTurn_eq (KK + 199) (by omega) x y 2 (by omega) (by omega), iBearingBack_eq (KK + 199) (by omega), iBearingQuarter_eq (KK + 199) (by omega), iBearingQuarter_eq (KK + 199) (by omega)]
      have qx := quarter_bd x y
      unfold bearTurn bearBack bearQuarter
      rw [if_pos hb, if_pos hb2, back]
      have two : turnN (turns 2) (x, y) = (-x, -y) := rfl
      rw [two]
      simp only [Option.bind_some, hb, hb2, if_true, beq_self_eq_true, Bool.and_self]
      rw [w64 (quarter x y + (turns j : Int)) (by omega) (by omega), Int.tmod_eq_emod_of_nonneg (by omega), q1]
      simp
    · have e : bearTurn x y j = (0, 0, false) := by unfold bearTurn; rw [if_neg hb]
      rw [e]
      show laws_FnBearingTurn.j0 ((KK + 199) + 1) j false false (!false) x y 0 0 0 0 = some true
      simp [laws_FnBearingTurn.j0]
end Go.Proofs.Ytbcngmlgmohkcaa.Pure
