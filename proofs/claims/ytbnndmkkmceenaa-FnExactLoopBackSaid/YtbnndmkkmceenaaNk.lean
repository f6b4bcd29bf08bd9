/- A loop turned, as both sides come to it. -/
import Derived.Test.YtbnndmkkmceenaaNl
import Derived.Test.YtbnndmkkmceenaaP0x13
namespace Go.Proofs.Ytbnndmkkmceenaa.Pure
open Go.RowKit Go.Proofs.Ytbnndmkkmceenaa.P0 Go.Proofs.YtbnndmkkmceenaaW.PrintWords Go.Proofs.YtbnndmkkmceenaaW.PrintLast
set_option linter.unusedVariables false
set_option linter.unusedSimpArgs false
def loopBack (n : Int) (l : List Rn) (w : List Int) : List Int × Bool := if loopIs n l w = true then (Gr.back w, true) else ([], false)
theorem take_succ_rd {w : List Int} {i : Int} (h0 : 0 ≤ i) (h1 : i < w.length) : w.take (i + 1).toNat = w.take i.toNat ++ [rd w i] := by
  rw [show (i + 1).toNat = i.toNat + 1 by omega, List.take_add_one]
  unfold rd
  rw [List.getD_eq_getElem?_getD, List.getElem?_eq_getElem (by omega)]; rfl
theorem back_take {w : List Int} {i : Int} (h0 : 0 ≤ i) (h1 : i < w.length) (x : List Int) : (x ++ [-(rd w i)]) ++ Gr.back (w.take i.toNat) = x ++ Gr.back (w.take (i + 1).toNat) := by
  rw [take_succ_rd h0 h1]
  unfold Gr.back
  rw [List.map_append, List.reverse_append]
  simp
theorem iBack_l0 (w : List Int) (hw : w.length ≤ 1000000) (hb : ∀ z ∈ w, -1000000 ≤ z ∧ z ≤ 1000000) : ∀ (k : Nat) (i : Int) (x : List Int), -1 ≤ i → i < w.length → i + 1 < k → (x.length : Int) + (i + 1) ≤ 3000000 → impl_LoopBack.l0 k w x i = some (x ++ Gr.back (w.take (i + 1).toNat), true)
  | 0, i, x, h0, _, h2, _ => by omega
  | k + 1, i, x, h0, h1, h2, h3 => by
    simp only [impl_LoopBack.l0]
    by_cases c : i ≥ 0
    · have hz := hb _ (show rd w i ∈ w by
        unfold rd
        rw [List.getD_eq_getElem?_getD, List.getElem?_eq_getElem (by omega), Option.getD_some]
        exact List.getElem_mem _)
      rw [if_pos c, if_pos c, if_pos h1, if_pos (by omega), w64 _ (by omega) (by omega), w64 _ (by omega) (by omega)]
      rw [iBack_l0 w hw hb k (i - 1) (x ++ [-(rd w i)]) (by omega) (by omega) (by omega) (by simp; omega), show i - 1 + 1 = i by omega, back_take c h1]
    · rw [if_neg c, show (i + 1).toNat = 0 by omega]
      simp [Gr.back]
theorem sBack_l0 (w : List Int) (hw : w.length ≤ 1000000) (hb : ∀ z ∈ w, -1000000 ≤ z ∧ z ≤ 1000000) : ∀ (k : Nat) (i : Int) (x : List Int), -1 ≤ i → i < w.length → i + 1 < k → (x.length : Int) + (i + 1) ≤ 3000000 → spec_LoopBack.l0 k w x i = some (x ++ Gr.back (w.take (i + 1).toNat), true)
  | 0, i, x, h0, _, h2, _ => by omega
  | k + 1, i, x, h0, h1, h2, h3 => by
    simp only [spec_LoopBack.l0]
    by_cases c : i ≥ 0
    · have hz := hb _ (show rd w i ∈ w by
        unfold rd
        rw [List.getD_eq_getElem?_getD, List.getElem?_eq_getElem (by omega), Option.getD_some]
        exact List.getElem_mem _)
      rw [if_pos c, if_pos c, if_pos h1, if_pos (by omega), w64 _ (by omega) (by omega), w64 _ (by omega) (by omega)]
      rw [sBack_l0 w hw hb k (i - 1) (x ++ [-(rd w i)]) (by omega) (by omega) (by omega) (by simp; omega), show i - 1 + 1 = i by omega, back_take c h1]
    · rw [if_neg c, show (i + 1).toNat = 0 by omega]
      simp [Gr.back]
theorem back_bd {n : Int} {l : List Rn} {w : List Int} (h : loopIs n l w = true) : ∀ z ∈ w, -1000000 ≤ z ∧ z ≤ 1000000 := by
  intro z hz
  have f := loop_facts h
  have v := (valid_iff.mp f.1).2.2.1
  have := inR_cases (f.2.2.2.2 z hz)
  omega
theorem iLoopBack_eq (n : Int) (l : List Rn) (w : List Int) (hl : l.length ≤ 1000000000) (hw : w.length ≤ 1000000000) (k : Nat) (hk : 2 * l.length + 2 * w.length + 20 ≤ k) : impl_LoopBack.f k n l w = some (loopBack n l w) := by
  unfold impl_LoopBack.f loopBack
  rw [iLoopIs_eq n l w hl hw k (by omega), Option.bind_some]
  by_cases h : loopIs n l w = true
  · have f := loop_facts h
    rw [if_pos h, if_pos h, if_pos (by omega), if_pos (by omega), w64 _ (by omega) (by omega), iBack_l0 w (by omega) (back_bd h) k _ [] (by omega) (by omega) (by omega) (by simp; omega)]
    rw [show (w.length : Int) - 1 + 1 = w.length by omega, Int.toNat_natCast, List.take_length]
    rfl
  · rw [if_neg h, if_neg h]
theorem sLoopBack_eq (n : Int) (l : List Rn) (w : List Int) (hl : l.length ≤ 1000000000) (hw : w.length ≤ 1000000000) (k : Nat) (hk : 2 * l.length + 2 * w.length + 20 ≤ k) : spec_LoopBack.f k n l w = some (loopBack n l w) := by
  unfold spec_LoopBack.f loopBack
  rw [Option.bind_some, sLoopIs_eq n l w hl hw k (by omega), Option.bind_some]
  by_cases h : loopIs n l w = true
  · have f := loop_facts h
    rw [if_pos h, if_pos h, w64 _ (by omega) (by omega), sBack_l0 w (by omega) (back_bd h) k _ [] (by omega) (by omega) (by omega) (by simp; omega)]
    rw [show (w.length : Int) - 1 + 1 = w.length by omega, Int.toNat_natCast, List.take_length]
    rfl
  · rw [if_neg h, if_neg h]
theorem loopBack_length (n : Int) (l : List Rn) (w : List Int) : (loopBack n l w).1.length ≤ w.length := by
  unfold loopBack
  split
  · rw [Gr.back_length]; exact Nat.le_refl _
  · simp
end Go.Proofs.Ytbnndmkkmceenaa.Pure
