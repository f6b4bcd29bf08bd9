/- The law FnBearingText of the printed functions: turned bearings have other texts. -/
import Derived.Test.YtibnhdbgfodjpaaDoorT4
import Derived.Test.YtibnhdbgfodjpaaDoorPt
import Derived.Test.YtibnhdbgfodjpaaDoorDb
import Derived.Test.YtibnhdbgfodjpaaDoorP0x7
import Derived.Test.YtibnhdbgfodjpaaDoorP1x3
namespace Go.Proofs.YtibnhdbgfodjpaaDoor.Pure
set_option linter.unusedSimpArgs false
set_option linter.unusedVariables false
open Go.RowKit Go.Proofs.YtibnhdbgfodjpaaDoor.P0 Go.Proofs.YtibnhdbgfodjpaaDoor.P1 Go.Proofs.YtibnhdbgfodjpaaDoor.Hand Go.Proofs.YtibnhdbgfodjpaaDoorW.PrintWords Go.Proofs.YtibnhdbgfodjpaaDoorW.PrintLast
theorem tot_DrawBearingText (l : List Int) (hb : Bytes l) : Tot (fun k => spec_DrawBearingText.f k l) (fun _ => True) := by
  unfold spec_DrawBearingText.f
  obtain ⟨s, hs, hl, hB⟩ := open_eq l
  rw [hs]
  simp only [Option.bind_some]
  exact Tot.bind (tot_l91Bearing s (hB hb) hl 0 (by omega) (by omega)) (fun _ _ => Tot.some trivial)
theorem turned {x y i : Int} (h : bear x y = true) (h0 : 1 ≤ i) (h1 : i ≤ 3) : ∃ u v, bearTurn x y i = (u, v, true) ∧ bear u v = true ∧ ((u = y ∧ v = -x) ∨ (u = -x ∧ v = -y) ∨ (u = -y ∧ v = x)) := by
  have b := bear_turnN (turns i) h
  refine ⟨(turnN (turns i) (x, y)).1, (turnN (turns i) (x, y)).2, by unfold bearTurn; rw [if_pos h], b, ?_⟩
  rcases (show i = 1 ∨ i = 2 ∨ i = 3 by omega) with rfl | rfl | rfl
  · exact .inl ⟨rfl, rfl⟩
  · exact .inr (.inl ⟨rfl, rfl⟩)
  · refine .inr (.inr ⟨rfl, ?_⟩)
    show -(-x) = x
    omega
theorem last_l0 {x y : Int} (h : bear x y = true) (k : Nat) : laws_FnBearingText.l0 (k + 1) (ba (bearText x y)) 4 x y = some true := by
  have nz := bear_nz h
  simp only [laws_FnBearingText.l0]
  rw [if_neg (by omega), toList_ba]
  have go : ∀ (c : UInt8) (l : List UInt8), bearText x y = c :: l → (c = 78 ∨ c = 83 ∨ (c = 69 ∧ l = []) ∨ (c = 87 ∧ l = [])) → (if 0 < ((ba (bearText x y)).size : Int) then (if (bt (ba (bearText x y)) 0) = 78 then (some true) else (if (bt (ba (bearText x y)) 0) = 83 then (some true) else (if bearText x y = ([69] : List UInt8) then (some true) else (some (bearText x y == ([87] : List UInt8)))))) else (none)) = some true := by
    intro c l e hc
    rw [e, ba_size, if_pos (by simp), bt_ba0]
    rcases hc with rfl | rfl | ⟨rfl, rfl⟩ | ⟨rfl, rfl⟩
    · rfl
    · rfl
    · rfl
    · rfl
  by_cases hx : x = 0
  · subst hx
    have hy : y ≠ 0 := fun z => nz ⟨rfl, z⟩
    refine go _ _ (text_y h hy) ?_
    by_cases c : y > 0 <;> simp [c]
  · by_cases hy : y = 0
    · subst hy
      refine go _ _ (text_x h hx) ?_
      by_cases c : x > 0 <;> simp [c]
    · refine go _ _ (text_full h hx hy) ?_
      by_cases c : y > 0 <;> simp [c]
theorem turn_l0 {x y : Int} (h : bear x y = true) : ∀ (d k : Nat) (i : Int), 1 ≤ i → i + d = 4 → KK + 20 + d ≤ k → laws_FnBearingText.l0 k (ba (bearText x y)) i x y = some true := by
  intro d
  induction d with
  | zero =>
    intro k i h0 h1 h2
    obtain rfl : i = 4 := by omega
    obtain ⟨k, rfl⟩ : ∃ m, k = m + 1 := ⟨k - 1, by omega⟩
    exact last_l0 h k
  | succ d ih =>
    intro k i h0 h1 h2
    obtain ⟨k, rfl⟩ : ∃ m, k = m + 1 := ⟨k - 1, by omega⟩
    obtain ⟨u, v, e, hb, ht⟩ := turned h h0 (by omega)
    simp only [laws_FnBearingText.l0]
    rw [if_pos (by omega), iBearingTurn_eq k (by omega) x y i (by omega) (by omega), e]
    simp only [Option.bind_some, if_true]
    rw [iBearingText_eq k (by omega)]
    simp only [Option.bind_some]
    rw [toList_ba, toList_ba, if_neg (text_ne h hb ht), if_neg (text_some hb), w64 (i + 1) (by omega) (by omega)]
    exact ih k (i + 1) (by omega) (by omega) (by omega)
theorem FnBearingText : ∀ (l0 : List Int), l0.length ≤ maxLen → l0.length * 1 ≤ 140737488351232 → (∀ x ∈ l0, (Lit.int .u8 x).wf = true) → ∃ k, laws_FnBearingText.f k l0 = some true := by
  intro l0 _ _ hw
  obtain ⟨⟨x, y⟩, hd, _⟩ := tot_DrawBearingText l0 (Bytes.of_wf hw)
  refine ⟨KK + 200, ?_⟩
  unfold laws_FnBearingText.f
  by_cases hlen : (l0.length : Int) > 1048576
  · rw [if_pos hlen]
  · have hd2 : spec_DrawBearingText.f (KK + 200) l0 = some (x, y) := hd _ (by omega)
    rw [if_neg hlen, hd2]
    simp only [Option.bind_some]
    rw [iBearingText_eq (KK + 200) (by omega), sBearingText_eq (KK + 200) (by omega)]
    simp only [Option.bind_some, if_true]
    show laws_FnBearingText.j0 ((KK + 199) + 1) _ _ _ x y = some true
    simp only [laws_FnBearingText.j0]
    rw [toList_ba]
    by_cases hb : bear x y = true
    · rw [if_neg (by simpa using text_some hb)]
      exact turn_l0 hb 3 (KK + 199) 1 (by omega) (by omega) (by omega)
    · have e : bearText x y = [] := by unfold bearText; rw [if_neg hb]
      rw [e, if_pos (by simp)]
      simp
end Go.Proofs.YtibnhdbgfodjpaaDoor.Pure
