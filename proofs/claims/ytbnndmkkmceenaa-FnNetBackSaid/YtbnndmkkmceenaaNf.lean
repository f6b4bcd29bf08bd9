/- Heights that fit, as both sides come to it. -/
import Derived.Test.YtbnndmkkmceenaaNr
import Derived.Test.YtbnndmkkmceenaaP0x8
namespace Go.Proofs.Ytbnndmkkmceenaa.Pure
set_option linter.unusedVariables false
set_option linter.unusedSimpArgs false
open Go.RowKit Go.Proofs.Ytbnndmkkmceenaa.P0 Go.Proofs.YtbnndmkkmceenaaW.PrintWords Go.Proofs.YtbnndmkkmceenaaW.PrintLast
def inH (h : Int) : Bool := decide (-1000000 ≤ h) && decide (h ≤ 1000000)
def fits (l : List Rn) (h : List Int) : Bool := l.all (fun r => decide (rd h r.f1 - rd h r.f0 = r.f2))
def netFits (n : Int) (l : List Rn) (h : List Int) : Bool := valid n l && decide ((h.length : Int) = n) && h.all inH && fits l h
theorem rd_in {h : List Int} (hh : ∀ x ∈ h, inH x = true) (i : Int) : -1000000 ≤ rd h i ∧ rd h i ≤ 1000000 := by
  unfold rd
  rw [List.getD_eq_getElem?_getD]
  cases e : h[i.toNat]? with
  | none => simp
  | some x =>
    have := hh x (List.mem_of_getElem? e)
    unfold inH at this
    simpa using this
theorem heights_l0 (h : List Int) (hl : h.length ≤ 1000000000) : ∀ (k : Nat) (i : Int), 0 ≤ i → i ≤ h.length → h.length < k + i → impl_heightsValid.l0 k h (h.length : Int) i = some ((h.drop i.toNat).all inH)
  | 0, i, _, h1, h2 => by omega
  | k + 1, i, h0, h1, h2 => by
    simp only [impl_heightsValid.l0]
    by_cases c : i < (h.length : Int)
    · rw [if_pos c, if_pos h0, if_pos c, within_eq _ _ (by omega) (by omega), Option.bind_some, drop_int h0 c, List.all_cons]
      show (if inH (rd h i) = true then _ else some false) = _
      cases hv : inH (rd h i) with
      | true =>
        rw [if_pos rfl, w64 _ (by omega) (by omega), heights_l0 h hl k (i + 1) (by omega) (by omega) (by omega)]
        rfl
      | false => rfl
    · rw [if_neg c, drop_end (by omega)]; rfl
theorem iFits_l0 (l : List Rn) (h : List Int) (n : Int) (hr : ∀ r ∈ l, okRun n r = true) (hn : (h.length : Int) = n) (hh : ∀ x ∈ h, inH x = true) (hl : l.length ≤ 1000000000) : ∀ (k : Nat) (i : Int), 0 ≤ i → i ≤ l.length → l.length < k + i → impl_NetFits.l0 k h l (l.length : Int) i = some (fits (l.drop i.toNat) h)
  | 0, i, _, h1, h2 => by omega
  | k + 1, i, h0, h1, h2 => by
    simp only [impl_NetFits.l0]
    by_cases c : i < (l.length : Int)
    · have ok := okRun_iff.mp (hr _ (rdR_mem h0 c))
      have x := rd_in hh (rd_T36 l i).f0
      have y := rd_in hh (rd_T36 l i).f1
      rw [if_pos c, if_pos h0, if_pos c, if_pos ok.2.1.1, if_pos (by omega), if_pos ok.1.1, if_pos (by omega), w64 _ (by omega) (by omega), drop_rd h0 c]
      unfold fits
      rw [List.all_cons]
      by_cases d : rd h (rd_T36 l i).f1 - rd h (rd_T36 l i).f0 = (rd_T36 l i).f2
      · rw [if_pos d, w64 _ (by omega) (by omega), iFits_l0 l h n hr hn hh hl k (i + 1) (by omega) (by omega) (by omega), decide_eq_true d]
        rfl
      · rw [if_neg d, decide_eq_false d]; rfl
    · rw [if_neg c, drop_end (by omega)]; rfl
theorem sFits_l1 (l : List Rn) (h : List Int) (n : Int) (hr : ∀ r ∈ l, okRun n r = true) (hn : (h.length : Int) = n) (hh : ∀ x ∈ h, inH x = true) (hl : l.length ≤ 1000000000) : ∀ (k : Nat) (i : Int), 0 ≤ i → i ≤ l.length → l.length < k + i → spec_NetFits.l1 k l h i = some (fits (l.drop i.toNat) h)
  | 0, i, _, h1, h2 => by omega
  | k + 1, i, h0, h1, h2 => by
    simp only [spec_NetFits.l1]
    by_cases c : i < (l.length : Int)
    · have ok := okRun_iff.mp (hr _ (rdR_mem h0 c))
      have x := rd_in hh (rd_T36 l i).f0
      have y := rd_in hh (rd_T36 l i).f1
      rw [if_pos c, if_pos h0, if_pos ok.2.1.1, if_pos (by omega), if_pos ok.1.1, if_pos (by omega), w64 _ (by omega) (by omega), drop_rd h0 c]
      unfold fits
      rw [List.all_cons]
      by_cases d : rd h (rd_T36 l i).f1 - rd h (rd_T36 l i).f0 = (rd_T36 l i).f2
      · rw [if_pos d, w64 _ (by omega) (by omega), sFits_l1 l h n hr hn hh hl k (i + 1) (by omega) (by omega) (by omega), decide_eq_true d]
        rfl
      · rw [if_neg d, decide_eq_false d]; rfl
    · rw [if_neg c, drop_end (by omega)]; rfl
theorem sFits_l0 (l : List Rn) (h : List Int) (n : Int) (hr : ∀ r ∈ l, okRun n r = true) (hn : (h.length : Int) = n) (hl : l.length ≤ 1000000000) (hb : h.length ≤ 1000000000) : ∀ (k : Nat) (i : Int), 0 ≤ i → i ≤ h.length → h.length + l.length + 1 < k + i → (∀ x ∈ h.take i.toNat, inH x = true) → spec_NetFits.l0 k n l h i = some ((h.drop i.toNat).all inH && fits l h)
  | 0, i, _, h1, h2, _ => by omega
  | k + 1, i, h0, h1, h2, ht => by
    simp only [spec_NetFits.l0]
    by_cases c : i < n
    · rw [if_pos c, if_pos h0, if_pos (by omega), l6In_eq, Option.bind_some, drop_int h0 (by omega), List.all_cons]
      show (if inH (rd h i) = true then _ else some false) = _
      cases hv : inH (rd h i) with
      | true =>
        rw [if_pos rfl, w64 _ (by omega) (by omega), sFits_l0 l h n hr hn hl hb k (i + 1) (by omega) (by omega) (by omega) ?_]
        · rfl
        · intro x hx
          rw [show (i + 1).toNat = i.toNat + 1 by omega, List.take_add_one] at hx
          rcases List.mem_append.mp hx with hx | hx
          · exact ht x hx
          · have e : h[i.toNat]? = some (rd h i) := by
              unfold rd
              rw [List.getD_eq_getElem?_getD, List.getElem?_eq_getElem (by omega), Option.getD_some]
            rw [e] at hx
            have : x = rd h i := by simpa using hx
            rw [this]; exact hv
      | false => rfl
    · rw [if_neg c, drop_end (by omega)]
      rw [List.take_of_length_le (by omega)] at ht
      rw [sFits_l1 l h n hr hn ht hl k 0 (by omega) (by omega) (by omega)]
      rfl
theorem iNetFits_eq (n : Int) (l : List Rn) (h : List Int) (hl : l.length ≤ 1000000000) (hb : h.length ≤ 1000000000) (k : Nat) (hk : 2 * l.length + h.length + 5 ≤ k) : impl_NetFits.f k n l h = some (netFits n l h) := by
  unfold impl_NetFits.f netFits
  rw [iNetValid_eq n l hl k (by omega), Option.bind_some]
  obtain ⟨k, rfl⟩ : ∃ m, k = m + 1 := ⟨k - 1, by omega⟩
  by_cases hv : valid n l = true
  · rw [if_pos hv, hv]
    unfold impl_heightsValid.f
    by_cases hn : (h.length : Int) = n
    · rw [if_pos hn, heights_l0 h hb _ 0 (by omega) (by omega) (by omega), Option.bind_some]
      simp only [impl_NetFits.j0]
      simp only [hn, decide_true, Bool.true_and, Int.toNat_zero, List.drop_zero]
      cases hh : h.all inH with
      | true =>
        rw [List.all_eq_true] at hh
        simp only [Bool.not_true, Bool.false_eq_true, if_false]
        rw [iFits_l0 l h n (valid_iff.mp hv).2.2.2 hn hh hl k 0 (by omega) (by omega) (by omega)]
        rfl
      | false => simp
    · rw [if_neg hn, Option.bind_some]
      simp [impl_NetFits.j0, hn]
  · rw [if_neg hv]
    have : valid n l = false := by simpa using hv
    simp [impl_NetFits.j0, this]
theorem sNetFits_eq (n : Int) (l : List Rn) (h : List Int) (hl : l.length ≤ 1000000000) (hb : h.length ≤ 1000000000) (k : Nat) (hk : 2 * l.length + h.length + 5 ≤ k) : spec_NetFits.f k n l h = some (netFits n l h) := by
  unfold spec_NetFits.f netFits
  rw [sNetValid_eq n l hl k (by omega), Option.bind_some]
  obtain ⟨k, rfl⟩ : ∃ m, k = m + 1 := ⟨k - 1, by omega⟩
  by_cases hv : valid n l = true
  · rw [if_pos hv, hv]
    by_cases hn : (h.length : Int) = n
    · simp only [spec_NetFits.j0]
      rw [if_neg (by simp [hn]), sFits_l0 l h n (valid_iff.mp hv).2.2.2 hn hl hb k 0 (by omega) (by omega) (by omega) (by simp)]
      simp [hn]
    · simp [spec_NetFits.j0, hn]
  · rw [if_neg hv]
    have : valid n l = false := by simpa using hv
    simp [spec_NetFits.j0, this]
end Go.Proofs.Ytbnndmkkmceenaa.Pure
