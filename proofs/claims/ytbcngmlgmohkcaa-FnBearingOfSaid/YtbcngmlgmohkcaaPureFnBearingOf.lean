/- The law FnBearingOf of the printed functions: the bearing of a step is reduced, points the same way, and turns with the step. -/
import Derived.Test.YtbcngmlgmohkcaaDs
import Derived.Test.YtbcngmlgmohkcaaPo
import Derived.Test.YtbcngmlgmohkcaaPk
import Derived.Test.YtbcngmlgmohkcaaMd
import Derived.Test.YtbcngmlgmohkcaaP0x33
namespace Go.Proofs.Ytbcngmlgmohkcaa.Pure
open Go.RowKit Go.Proofs.Ytbcngmlgmohkcaa.P0 Go.Proofs.Ytbcngmlgmohkcaa.Hand Go.Proofs.YtbcngmlgmohkcaaW.PrintWords Go.Proofs.YtbcngmlgmohkcaaW.PrintLast
/-- The greatest of two absolute values, as the law says it. -/
theorem mx4 (x y : Int) (hx : -20000 ≤ x ∧ x ≤ 20000) (hy : -20000 ≤ y ∧ y ≤ 20000) : mx (mx (mx x (wrap64 (-x))) y) (wrap64 (-y)) = max (x.natAbs : Int) (y.natAbs : Int) := by
  rw [w64 (-x) (by omega) (by omega), w64 (-y) (by omega) (by omega)]
  unfold mx
  (repeat' split) <;> omega
theorem max_mul (u v g : Int) (hg : 1 ≤ g) : max ((u * g).natAbs : Int) ((v * g).natAbs : Int) = max (u.natAbs : Int) (v.natAbs : Int) * g := by
  have e1 : ((u * g).natAbs : Int) = (u.natAbs : Int) * g := by rw [Int.natAbs_mul, Int.natCast_mul]; congr 1; omega
  have e2 : ((v * g).natAbs : Int) = (v.natAbs : Int) * g := by rw [Int.natAbs_mul, Int.natCast_mul]; congr 1; omega
  rw [e1, e2]
  rcases Int.le_total (u.natAbs : Int) (v.natAbs : Int) with h | h
  · rw [Int.max_eq_right h, Int.max_eq_right (Int.mul_le_mul_of_nonneg_right h (by omega))]
  · rw [Int.max_eq_left h, Int.max_eq_left (Int.mul_le_mul_of_nonneg_right h (by omega))]
theorem FnBearingOf : ∀ (l0 : List Int), l0.length ≤ maxLen → l0.length * 1 ≤ 140737488351232 → (∀ x ∈ l0, (Lit.int .u8 x).wf = true) → ∃ k, laws_FnBearingOf.f k l0 = some true := by
  intro l0 _ _ hw
  obtain ⟨⟨x, y⟩, hd, _⟩ := tot_DrawBearingOf l0 (Bytes.of_wf hw)
  refine ⟨KK + 200, ?_⟩
  unfold laws_FnBearingOf.f
  by_cases hlen : (l0.length : Int) > 1048576
  · rw [if_pos hlen]
  · have hd2 : spec_DrawBearingOf.f (KK + 200) l0 = some (x, y) := hd _ (by omega)
    rw [if_neg hlen, hd2]
    simp only [Option.bind_some]
    rw [iBearingOf_eq (KK + 200) (by omega), sBearingOf_eq (KK + 200) (by omega)]
    simp only [Option.bind_some]
    rcases h : bearOf x y with ⟨u, v, ok⟩
    simp only [bne_self_eq_false, Bool.false_eq_true, if_false, beq_self_eq_true, Bool.not_true, Bool.or_self]
    show laws_FnBearingOf.j0 ((KK + 199) + 1) ok ok (!ok) x y u v u v = some true
    simp only [laws_FnBearingOf.j0]
    cases ok with
    | false => simp
    | true =>
      obtain ⟨hb, g, hg, ex, ey, _, i1, i2, hz⟩ := bearOf_spec h
      have b0 := bear_bd hb
      have rx := (inB_iff _ _).1 i1
      have ry := (inB_iff _ _).1 i2
      have hy0 : bearBack u v = (-u, -v, true) := by unfold bearBack; rw [if_pos hb]
      simp only [Bool.not_true, Bool.false_eq_true, if_false]
      rw [w64 (-x) (by omega) (by omega), w64 (-y) (by omega) (by omega), iBearingOf_eq (KK + 199) (by omega), iBearingOf_eq (KK + 199) (by omega), iBearingBack_eq (KK + 199) (by omega), bearOf_bear hb, bearOf_neg h, hy0]
      simp only [Option.bind_some, if_true, beq_self_eq_true, Bool.and_self]
      have m1 := mx4 x y rx ry
      have m2 := mx4 u v b0.1 b0.2.1
      rw [w64 (-x) (by omega) (by omega), w64 (-y) (by omega) (by omega)] at m1
      rw [m1, m2]
      have hM : 1 ≤ max (u.natAbs : Int) (v.natAbs : Int) := by omega
      have hq : (max (x.natAbs : Int) (y.natAbs : Int)).tdiv (max (u.natAbs : Int) (v.natAbs : Int)) = g := by
        rw [ex, ey, max_mul u v g hg, Int.mul_comm, Int.mul_tdiv_cancel _ (by omega)]
      have hgb : g ≤ 20000 := by
        have h1 : g ≤ max (u.natAbs : Int) (v.natAbs : Int) * g := by
          have := Int.mul_le_mul_of_nonneg_right hM (by omega : 0 ≤ g)
          omega
        rw [← max_mul u v g hg, ← ex, ← ey] at h1
        omega
      rw [if_neg (by omega), hq, w64 g (by omega) (by omega), Int.mul_comm g u, Int.mul_comm g v, ← ex, ← ey, w64 x (by omega) (by omega), w64 y (by omega) (by omega), if_pos rfl, if_pos rfl]
      simp; omega
end Go.Proofs.Ytbcngmlgmohkcaa.Pure
