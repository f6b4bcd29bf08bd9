import Derived.Test.YtbnndmkkmceenaaGk
/- Errors of loops do not hang on heights that are added. Plain Lean. -/
namespace Go.Proofs.Ytbnndmkkmceenaa.Gr
set_option linter.unusedVariables false
set_option linter.unusedSimpArgs false
/-- runs whose rises are shifted by heights -/
def shiftR (h : Int → Int) (rs : List R) : List R := rs.map (fun r => (r.1, r.2.1, r.2.2 + h r.2.1 - h r.1))
theorem eds_shift (h : Int → Int) (rs : List R) : eds (shiftR h rs) = eds rs := by unfold eds shiftR; rw [List.map_map]; rfl
theorem getD_shift (h : Int → Int) (rs : List R) {k : Nat} (hk : k < rs.length) : (shiftR h rs).getD k (0, 0, 0) = ((rs.getD k (0, 0, 0)).1, (rs.getD k (0, 0, 0)).2.1, (rs.getD k (0, 0, 0)).2.2 + h (rs.getD k (0, 0, 0)).2.1 - h (rs.getD k (0, 0, 0)).1) := by
  unfold shiftR
  rw [List.getD_eq_getElem?_getD, List.getD_eq_getElem?_getD, List.getElem?_map, List.getElem?_eq_getElem hk]; rfl
theorem rise_shift {h : Int → Int} {rs : List R} {z : Int} (hz : inR rs.length z = true) : rise (shiftR h rs) z = rise rs z + h (too (eds rs) z) - h (fr (eds rs) z) := by
  have hi := inR_iff.mp hz
  unfold rise too fr
  rw [getD_shift h rs (by omega), ed_eds]
  split <;> simp only <;> omega
theorem err_shift {h : Int → Int} {rs : List R} : ∀ {w : List Int} {u : Int}, chn (eds rs) u w = true → err (shiftR h rs) w = err rs w + h (fin (eds rs) u w) - h u
  | [], u, _ => by simp [err, fin]
  | z :: w, u, hc => by
    unfold chn at hc
    simp only [Bool.and_eq_true, decide_eq_true_eq] at hc
    have i := err_shift (h := h) hc.2
    have hz := hc.1.1
    rw [eds_length] at hz
    have e := rise_shift (h := h) hz
    unfold err at i ⊢
    rw [List.map_cons, List.sum_cons, List.map_cons, List.sum_cons, i, e, hc.1.2]
    simp only [fin]; omega
theorem loop_shift {h : Int → Int} {rs : List R} {w : List Int} (hl : loopB (eds rs) w = true) : err (shiftR h rs) w = err rs w := by
  obtain ⟨_, u, h2, h3⟩ := loop_iff.mp hl
  rw [err_shift h2, h3]; omega
theorem loop_fit {rs : List R} {P : Int → Int} {w : List Int} (hP : Pot rs P) (hl : loopB (eds rs) w = true) : err rs w = 0 := by
  obtain ⟨_, u, h2, h3⟩ := loop_iff.mp hl
  rw [chn_rise hP h2, h3]; omega
end Go.Proofs.Ytbnndmkkmceenaa.Gr
