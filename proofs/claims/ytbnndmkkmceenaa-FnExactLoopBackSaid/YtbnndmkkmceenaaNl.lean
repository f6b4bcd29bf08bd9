/- Loops and their errors, as both sides come to them. -/
import Derived.Test.YtbnndmkkmceenaaNf
import Derived.Test.YtbnndmkkmceenaaP0x10
namespace Go.Proofs.Ytbnndmkkmceenaa.Pure
set_option linter.unusedVariables false
set_option linter.unusedSimpArgs false
open Go.RowKit Go.Proofs.Ytbnndmkkmceenaa.P0 Go.Proofs.YtbnndmkkmceenaaW.PrintWords Go.Proofs.YtbnndmkkmceenaaW.PrintLast
def loopIs (n : Int) (l : List Rn) (w : List Int) : Bool := valid n l && decide (1 ≤ w.length) && decide (w.length ≤ 12) && Gr.loopB (es l) w
theorem ends_at (l : List Rn) (z : Int) (_ : 0 ≤ Gr.ix z) : Gr.ed (es l) (Gr.ix z).toNat = ((rd_T36 l (Gr.ix z)).f0, (rd_T36 l (Gr.ix z)).f1) := by rw [es_ed, rd_nat]
theorem rise_at (l : List Rn) (z : Int) : Gr.rise (rs l) z = if z > 0 then (rd_T36 l (Gr.ix z)).f2 else -(rd_T36 l (Gr.ix z)).f2 := by
  unfold Gr.rise; rw [rs_getD, rd_nat]
theorem inR_cases {N z : Int} (h : Gr.inR N z = true) : (z > 0 ∧ Gr.ix z = z - 1 ∧ 0 ≤ z - 1 ∧ z - 1 < N) ∨ (¬ z > 0 ∧ Gr.ix z = -z - 1 ∧ 0 ≤ -z - 1 ∧ -z - 1 < N) := by
  have := Gr.inR_iff.mp h
  unfold Gr.ix at this ⊢
  by_cases p : z > 0
  · rw [if_pos p] at this ⊢; left; omega
  · rw [if_neg p] at this ⊢; right; omega
def nrun (l : List Rn) (z : Int) : Int × Int × Int × Int × Bool := if Gr.inR l.length z = true then (Gr.fr (es l) z, Gr.too (es l) z, Gr.rise (rs l) z, (rd_T36 l (Gr.ix z)).f3, true) else (0, 0, 0, 0, false)
theorem numberRun_eq (l : List Rn) (n : Int) (hr : ∀ r ∈ l, okRun n r = true) (hl : l.length ≤ 1000000000) (z : Int) (k : Nat) (hk : 1 ≤ k) : impl_numberRun.f k l z = some (nrun l z) := by
  obtain ⟨k, rfl⟩ : ∃ m, k = m + 1 := ⟨k - 1, by omega⟩
  unfold impl_numberRun.f nrun
  simp only [impl_numberRun.j0]
  rw [w64 (-(l.length : Int)) (by omega) (by omega)]
  have no : ∀ {α : Type} (x y : α), ¬ Gr.inR l.length z = true → (if Gr.inR l.length z = true then x else y) = y := fun x y h => if_neg h
  by_cases a : z = 0
  · rw [if_pos a, if_pos trivial, no _ _ (by rw [a]; simp [Gr.inR])]
  · rw [if_neg a]
    by_cases b : z < -(l.length : Int)
    · rw [if_pos b, if_pos trivial, no _ _ (by simp [Gr.inR]; omega)]
    · rw [if_neg b]
      by_cases c : z > (l.length : Int)
      · rw [if_pos (decide_eq_true c), no _ _ (by simp [Gr.inR]; omega)]
      · rw [if_neg (by simpa using c)]
        have hin : Gr.inR l.length z = true := by simp [Gr.inR, a]; omega
        rw [if_pos hin, rise_at]
        have hix := (Gr.inR_iff.mp hin).2
        unfold Gr.fr Gr.too
        rw [ends_at l z hix.1]
        rcases inR_cases hin with ⟨p, e, h0, h1⟩ | ⟨p, e, h0, h1⟩
        · rw [if_pos p, if_pos p, if_pos p, if_pos p, w64 _ (by omega) (by omega), if_pos h0, if_pos h1, e]
        · rw [if_neg p, if_neg p, if_neg p, if_neg p, w64 (-z) (by omega) (by omega), w64 _ (by omega) (by omega), if_pos h0, if_pos h1, e]
          have ok := (okRun_iff.mp (hr _ (rdR_mem h0 h1))).2.2.2.1
          rw [w64 _ (by omega) (by omega)]
theorem iLoop_l0 (l : List Rn) (n : Int) (hr : ∀ r ∈ l, okRun n r = true) (hl : l.length ≤ 1000000000) (w : List Int) (hw : w.length ≤ 1000000000) : ∀ (k : Nat) (i u : Int), 0 ≤ i → i ≤ w.length → w.length + 1 < k + i → impl_LoopIs.l0 k l u w (w.length : Int) i = some (Gr.chn (es l) u (w.drop i.toNat))
  | 0, i, u, _, h1, h2 => by omega
  | k + 1, i, u, h0, h1, h2 => by
    simp only [impl_LoopIs.l0]
    by_cases c : i < (w.length : Int)
    · rw [if_pos c, if_pos h0, if_pos c, numberRun_eq l n hr hl _ k (by omega), Option.bind_some, drop_int h0 c]
      unfold Gr.chn nrun
      rw [es_length]
      cases hin : Gr.inR l.length (rd w i) with
      | false => simp
      | true =>
        simp only [if_true, Bool.true_and]
        by_cases d : Gr.fr (es l) (rd w i) = u
        · rw [if_pos d, w64 _ (by omega) (by omega), iLoop_l0 l n hr hl w hw k (i + 1) _ (by omega) (by omega) (by omega), decide_eq_true d]
          rfl
        · rw [if_neg d, decide_eq_false d]; rfl
    · rw [if_neg c, drop_end (by omega)]; rfl
theorem fin_last (e : List Gr.E) : ∀ {w : List Int} (u : Int), w ≠ [] → Gr.fin e u w = Gr.too e (rd w ((w.length : Int) - 1))
  | [], _, h => absurd rfl h
  | [z], u, _ => rfl
  | z :: y :: w, u, _ => by
    show Gr.fin e (Gr.too e z) (y :: w) = _
    rw [fin_last e (w := y :: w) _ (by simp)]
    congr 1
    unfold rd
    rw [show (((z :: y :: w).length : Int) - 1).toNat = (((y :: w).length : Int) - 1).toNat + 1 by simp]
    rfl
theorem last_mem {w : List Int} (h : w ≠ []) : rd w ((w.length : Int) - 1) ∈ w := by
  have : 0 < w.length := List.length_pos_iff.mpr h
  unfold rd
  rw [List.getD_eq_getElem?_getD, List.getElem?_eq_getElem (by omega), Option.getD_some]
  exact List.getElem_mem _
theorem iLoopIs_eq (n : Int) (l : List Rn) (w : List Int) (hl : l.length ≤ 1000000000) (hw : w.length ≤ 1000000000) (k : Nat) (hk : 2 * l.length + w.length + 5 ≤ k) : impl_LoopIs.f k n l w = some (loopIs n l w) := by
  unfold impl_LoopIs.f loopIs
  rw [iNetValid_eq n l hl k (by omega), Option.bind_some]
  obtain ⟨k, rfl⟩ : ∃ m, k = m + 1 := ⟨k - 1, by omega⟩
  simp only [impl_LoopIs.j0]
  by_cases hv : valid n l = true
  · rw [if_pos hv, hv]
    have hr := (valid_iff.mp hv).2.2.2
    by_cases a : (w.length : Int) < 1
    · rw [if_pos a, if_pos trivial]; congr 1; symm; simp [show ¬ 1 ≤ w.length by omega]
    · rw [if_neg a]
      by_cases b : (w.length : Int) > 12
      · rw [if_pos (decide_eq_true b)]; congr 1; symm; simp [show ¬ w.length ≤ 12 by omega]
      · have hne : w ≠ [] := by intro h; rw [h] at a; simp at a
        rw [if_neg (by simpa using b), w64 _ (by omega) (by omega), if_pos (by omega), if_pos (by omega), numberRun_eq l n hr hl _ k (by omega), Option.bind_some]
        simp only [show 1 ≤ w.length by omega, show w.length ≤ 12 by omega, decide_true, Bool.true_and]
        unfold nrun Gr.loopB
        have hb : (w != []) = true := by simpa using hne
        rw [hb, Bool.true_and]
        cases hin : Gr.inR l.length (rd w ((w.length : Int) - 1)) with
        | true =>
          simp only [if_true]
          rw [iLoop_l0 l n hr hl w hw k 0 _ (by omega) (by omega) (by omega), fin_last _ _ hne]
          rfl
        | false =>
          simp only [Bool.false_eq_true, if_false]
          congr 1; symm
          rw [Bool.eq_false_iff]
          intro hc
          have := Gr.chn_nz hc _ (last_mem hne)
          rw [es_length, hin] at this
          cases this
  · rw [if_neg hv]
    have : valid n l = false := by simpa using hv
    simp [this]
theorem sLoop_l0 (l : List Rn) (hl : l.length ≤ 1000000000) (w : List Int) (hw : w.length ≤ 1000000000) : ∀ (k : Nat) (i : Int), 0 ≤ i → i ≤ w.length → w.length < k + i → ∃ m : Nat, k + i - w.length ≤ (m : Int) + 1 ∧ spec_LoopIs.l0 k l w i = if (w.drop i.toNat).all (Gr.inR l.length) = true then spec_LoopIs.l1 m l w 0 else some false
  | 0, i, _, h1, h2 => by omega
  | k + 1, i, h0, h1, h2 => by
    simp only [spec_LoopIs.l0]
    by_cases c : i < (w.length : Int)
    · rw [if_pos c, if_pos h0, l6In_eq, w64 _ (by omega) (by omega), Option.bind_some, drop_int h0 c, List.all_cons]
      obtain ⟨m, hm, e⟩ := sLoop_l0 l hl w hw k (i + 1) (by omega) (by omega) (by omega)
      refine ⟨m, by omega, ?_⟩
      rw [w64 _ (by omega) (by omega), e]
      by_cases d : (decide (-(l.length : Int) ≤ rd w i) && decide (rd w i ≤ (l.length : Int))) = true
      · rw [if_pos d]
        simp only [Bool.and_eq_true, decide_eq_true_eq] at d
        by_cases z : rd w i = 0
        · rw [if_pos z]; simp [Gr.inR, z]
        · rw [if_neg z]
          have : Gr.inR l.length (rd w i) = true := by simp [Gr.inR, z]; omega
          rw [this, Bool.true_and]
      · rw [if_neg d]
        have : Gr.inR l.length (rd w i) = false := by
          rw [Bool.eq_false_iff]; intro q
          apply d
          simp only [Gr.inR, Bool.and_eq_true, decide_eq_true_eq] at q ⊢
          omega
        rw [this]; simp
    · rw [if_neg c, drop_end (by omega)]
      exact ⟨k, by omega, by simp⟩
def nok (e : List Gr.E) (c : Int) : List Int → Bool
  | [] => true
  | [z] => decide (Gr.too e z = c)
  | z :: y :: w => decide (Gr.too e z = Gr.fr e y) && nok e c (y :: w)
theorem nok_eq (e : List Gr.E) (c : Int) : ∀ (z : Int) (w : List Int), (∀ x ∈ z :: w, Gr.inR e.length x = true) → nok e c (z :: w) = (Gr.chn e (Gr.fr e z) (z :: w) && decide (Gr.fin e 0 (z :: w) = c))
  | z, [], h => by
    have := h z (by simp)
    have e1 : Gr.chn e (Gr.fr e z) [z] = true := by simp [Gr.chn, this]
    have e2 : Gr.fin e 0 [z] = Gr.too e z := rfl
    rw [e1, e2, Bool.true_and]
    rfl
  | z, y :: w, h => by
    have hz := h z (by simp)
    have i := nok_eq e c y w (fun x hx => h x (List.mem_cons_of_mem _ hx))
    unfold nok
    rw [i]
    have e1 : Gr.chn e (Gr.fr e z) (z :: y :: w) = Gr.chn e (Gr.too e z) (y :: w) := by
      rw [Gr.chn, hz]; simp
    have e2 : Gr.fin e 0 (z :: y :: w) = Gr.fin e 0 (y :: w) := rfl
    rw [e1, e2]
    by_cases d : Gr.too e z = Gr.fr e y
    · rw [d, decide_eq_true rfl, Bool.true_and]
    · rw [decide_eq_false d, Bool.false_and]
      have : Gr.chn e (Gr.too e z) (y :: w) = false := by
        rw [Gr.chn, decide_eq_false (fun q => d q.symm)]; simp
      rw [this]; simp
theorem loopB_nok (e : List Gr.E) (z : Int) (w : List Int) (h : ∀ x ∈ z :: w, Gr.inR e.length x = true) : Gr.loopB e (z :: w) = nok e (Gr.fr e z) (z :: w) := by
  rw [nok_eq e _ z w h]
  unfold Gr.loopB
  have : ((z :: w) != []) = true := rfl
  rw [this, Bool.true_and, Gr.chn, Gr.chn, decide_eq_true (rfl : Gr.fr e z = Gr.fr e z)]
  generalize Gr.fin e 0 (z :: w) = f
  rw [decide_eq_decide.mpr (show Gr.fr e z = f ↔ f = Gr.fr e z from ⟨Eq.symm, Eq.symm⟩)]
  cases Gr.inR e.length z <;> cases Gr.chn e (Gr.too e z) w <;> cases decide (f = Gr.fr e z) <;> rfl
theorem l13Ends_eq (l : List Rn) (z : Int) (hin : Gr.inR l.length z = true) (hl : l.length ≤ 1000000000) : spec_l13Ends.f l z = some (Gr.fr (es l) z, Gr.too (es l) z) := by
  unfold spec_l13Ends.f spec_l1Size.f
  have hix := (Gr.inR_iff.mp hin).2
  unfold Gr.fr Gr.too
  rw [ends_at l z hix.1]
  rcases inR_cases hin with ⟨p, e, h0, h1⟩ | ⟨p, e, h0, h1⟩
  · have hm : mx z (wrap64 (-z)) = z := by rw [w64 _ (by omega) (by omega)]; unfold mx; split <;> omega
    rw [hm, Option.bind_some, w64 _ (by omega) (by omega), if_pos h0, if_pos h1, if_neg (by omega), if_pos p, if_pos p, e]
  · have hm : mx z (wrap64 (-z)) = -z := by rw [w64 _ (by omega) (by omega)]; unfold mx; split <;> omega
    rw [hm, Option.bind_some, w64 _ (by omega) (by omega), if_pos h0, if_pos h1, if_pos (by omega), if_neg p, if_neg p, e]
theorem sLoop_l1 (l : List Rn) (hl : l.length ≤ 1000000000) (w : List Int) (hw : w.length ≤ 1000000000) (hin : ∀ x ∈ w, Gr.inR l.length x = true) : ∀ (k : Nat) (i : Int), 0 ≤ i → i ≤ w.length → w.length < k + i → spec_LoopIs.l1 k l w i = some (nok (es l) (Gr.fr (es l) (rd w 0)) (w.drop i.toNat))
  | 0, i, _, h1, h2 => by omega
  | k + 1, i, h0, h1, h2 => by
    simp only [spec_LoopIs.l1]
    by_cases c : i < (w.length : Int)
    · have rdm : ∀ j : Int, 0 ≤ j → j < w.length → rd w j ∈ w := fun j j0 j1 => by
        unfold rd
        rw [List.getD_eq_getElem?_getD, List.getElem?_eq_getElem (by omega), Option.getD_some]
        exact List.getElem_mem _
      rw [if_pos c, if_pos h0, l13Ends_eq l _ (hin _ (rdm i h0 c)) hl, Option.bind_some, if_neg (by omega), w64 (i + 1) (by omega) (by omega), drop_int h0 c]
      by_cases d : i + 1 < (w.length : Int)
      · have et : Int.tmod (i + 1) (w.length : Int) = i + 1 := Int.tmod_eq_of_lt (by omega) d
        rw [et, if_pos (by omega), if_pos d, l13Ends_eq l _ (hin _ (rdm _ (by omega) d)) hl, Option.bind_some, drop_int (by omega) d]
        simp only
        unfold nok
        by_cases f : Gr.too (es l) (rd w i) = Gr.fr (es l) (rd w (i + 1))
        · rw [if_pos f, sLoop_l1 l hl w hw hin k (i + 1) (by omega) (by omega) (by omega), decide_eq_true f, drop_int (by omega) d, Bool.true_and]
        · rw [if_neg f, decide_eq_false f, Bool.false_and]
      · have ei : i + 1 = w.length := by omega
        have et : Int.tmod (i + 1) (w.length : Int) = 0 := by rw [ei]; exact Int.tmod_self
        rw [et, if_pos (by omega), if_pos (by omega), l13Ends_eq l _ (hin _ (rdm _ (by omega) (by omega))) hl, Option.bind_some, drop_end (by omega)]
        simp only
        unfold nok
        by_cases f : Gr.too (es l) (rd w i) = Gr.fr (es l) (rd w 0)
        · rw [if_pos f, sLoop_l1 l hl w hw hin k (i + 1) (by omega) (by omega) (by omega), decide_eq_true f, drop_end (by omega)]
          rfl
        · rw [if_neg f, decide_eq_false f]
    · rw [if_neg c, drop_end (by omega)]; rfl
theorem sLoopIs_eq (n : Int) (l : List Rn) (w : List Int) (hl : l.length ≤ 1000000000) (hw : w.length ≤ 1000000000) (k : Nat) (hk : 2 * l.length + 2 * w.length + 9 ≤ k) : spec_LoopIs.f k n l w = some (loopIs n l w) := by
  unfold spec_LoopIs.f loopIs
  rw [sNetValid_eq n l hl k (by omega), Option.bind_some]
  obtain ⟨k, rfl⟩ : ∃ m, k = m + 1 := ⟨k - 1, by omega⟩
  simp only [spec_LoopIs.j0]
  by_cases hv : valid n l = true
  · rw [if_pos hv, hv, l6In_eq, Option.bind_some]
    by_cases a : 1 ≤ w.length ∧ w.length ≤ 12
    · have e : (decide ((1 : Int) ≤ (w.length : Int)) && decide ((w.length : Int) ≤ 12)) = true := by simp; omega
      rw [e]
      simp only [Bool.not_true, Bool.false_eq_true, if_false, a.1, a.2, decide_true, Bool.true_and]
      obtain ⟨m, hm, e2⟩ := sLoop_l0 l hl w hw k 0 (by omega) (by omega) (by omega)
      rw [e2]
      simp only [Int.toNat_zero, List.drop_zero]
      cases w with
      | nil => simp at a
      | cons z t =>
        by_cases hin : (z :: t).all (Gr.inR l.length) = true
        · rw [if_pos hin]
          rw [List.all_eq_true] at hin
          rw [sLoop_l1 l hl _ hw hin m 0 (by omega) (by omega) (by omega), loopB_nok (es l) z t (by rw [es_length]; exact hin)]
          rfl
        · rw [if_neg hin]
          congr 1; symm
          rw [Bool.eq_false_iff]
          intro hc
          apply hin
          rw [List.all_eq_true]
          have := (Gr.loop_iff.mp hc).2
          obtain ⟨u, h2, _⟩ := this
          have := Gr.chn_nz h2
          rw [es_length] at this
          exact this
    · have e : (decide ((1 : Int) ≤ (w.length : Int)) && decide ((w.length : Int) ≤ 12)) = false := by
        rw [Bool.eq_false_iff]; simp only [ne_eq, Bool.and_eq_true, decide_eq_true_eq]; omega
      rw [e]
      by_cases b : 1 ≤ w.length
      · simp [show ¬ w.length ≤ 12 from fun q => a ⟨b, q⟩]
      · simp [b]
  · rw [if_neg hv]
    have : valid n l = false := by simpa using hv
    simp [this]
/-! errors -/
def loopError (n : Int) (l : List Rn) (w : List Int) : Int × Bool := if loopIs n l w = true then (Gr.err (rs l) w, true) else (0, false)
theorem rise_bd {l : List Rn} {n : Int} (hr : ∀ r ∈ l, okRun n r = true) {z : Int} (hin : Gr.inR l.length z = true) : -100000 ≤ Gr.rise (rs l) z ∧ Gr.rise (rs l) z ≤ 100000 := by
  have hix := (Gr.inR_iff.mp hin).2
  have ok := (okRun_iff.mp (hr _ (rdR_mem hix.1 hix.2))).2.2.2.1
  rw [rise_at]
  split <;> omega
theorem iError_l0 (l : List Rn) (n : Int) (hr : ∀ r ∈ l, okRun n r = true) (hl : l.length ≤ 1000000000) (w : List Int) (hw : w.length ≤ 1000000) (hin : ∀ x ∈ w, Gr.inR l.length x = true) : ∀ (k : Nat) (i s : Int), 0 ≤ i → i ≤ w.length → w.length + 1 < k + i → -(100000 * i) ≤ s → s ≤ 100000 * i → impl_LoopError.l0 k l s w (w.length : Int) i = some (s + Gr.err (rs l) (w.drop i.toNat), true)
  | 0, i, s, _, h1, h2, _, _ => by omega
  | k + 1, i, s, h0, h1, h2, h3, h4 => by
    simp only [impl_LoopError.l0]
    by_cases c : i < (w.length : Int)
    · have hm : Gr.inR l.length (rd w i) = true := hin _ (by
        unfold rd
        rw [List.getD_eq_getElem?_getD, List.getElem?_eq_getElem (by omega), Option.getD_some]
        exact List.getElem_mem _)
      have b := rise_bd hr hm
      rw [if_pos c, if_pos h0, if_pos c, numberRun_eq l n hr hl _ k (by omega), Option.bind_some, drop_int h0 c]
      unfold nrun
      rw [if_pos hm]
      simp only
      rw [w64 _ (by omega) (by omega), w64 _ (by omega) (by omega), iError_l0 l n hr hl w hw hin k (i + 1) _ (by omega) (by omega) (by omega) (by omega) (by omega)]
      unfold Gr.err
      rw [List.map_cons, List.sum_cons, Int.add_assoc]
    · rw [if_neg c, drop_end (by omega)]
      simp [Gr.err]
theorem sError_l0 (l : List Rn) (n : Int) (hr : ∀ r ∈ l, okRun n r = true) (hl : l.length ≤ 1000000000) (w : List Int) (hw : w.length ≤ 1000000) (hin : ∀ x ∈ w, Gr.inR l.length x = true) : ∀ (k : Nat) (i s : Int), 0 ≤ i → i ≤ w.length → w.length < k + i → -(100000 * i) ≤ s → s ≤ 100000 * i → spec_l13Error.l0 k l w s i = some (s + Gr.err (rs l) (w.drop i.toNat))
  | 0, i, s, _, h1, h2, _, _ => by omega
  | k + 1, i, s, h0, h1, h2, h3, h4 => by
    simp only [spec_l13Error.l0]
    by_cases c : i < (w.length : Int)
    · have hm : Gr.inR l.length (rd w i) = true := hin _ (by
        unfold rd
        rw [List.getD_eq_getElem?_getD, List.getElem?_eq_getElem (by omega), Option.getD_some]
        exact List.getElem_mem _)
      have b := rise_bd hr hm
      rw [if_pos c, if_pos h0, drop_int h0 c]
      have fin : spec_l13Error.l0 k l w (s + Gr.rise (rs l) (rd w i)) (i + 1) = some (s + Gr.err (rs l) (rd w i :: w.drop (i + 1).toNat)) := by
        rw [sError_l0 l n hr hl w hw hin k (i + 1) _ (by omega) (by omega) (by omega) (by omega) (by omega)]
        unfold Gr.err
        rw [List.map_cons, List.sum_cons, Int.add_assoc]
      rcases inR_cases hm with ⟨p, e, q0, q1⟩ | ⟨p, e, q0, q1⟩
      · rw [if_pos p, w64 (rd w i - 1) (by omega) (by omega), if_pos q0, if_pos q1]
        have er : Gr.rise (rs l) (rd w i) = (rd_T36 l (rd w i - 1)).f2 := by rw [rise_at, if_pos p, e]
        rw [← er, w64 _ (by omega) (by omega), w64 _ (by omega) (by omega)]
        exact fin
      · rw [if_neg p, w64 (-(rd w i)) (by omega) (by omega), w64 (-(rd w i) - 1) (by omega) (by omega), if_pos q0, if_pos q1]
        have er : Gr.rise (rs l) (rd w i) = -(rd_T36 l (-(rd w i) - 1)).f2 := by rw [rise_at, if_neg p, e]
        rw [show s - (rd_T36 l (-(rd w i) - 1)).f2 = s + Gr.rise (rs l) (rd w i) by rw [er]; omega, w64 _ (by omega) (by omega), w64 _ (by omega) (by omega)]
        exact fin
    · rw [if_neg c, drop_end (by omega)]
      simp [Gr.err]
theorem loop_facts {n : Int} {l : List Rn} {w : List Int} (h : loopIs n l w = true) : valid n l = true ∧ 1 ≤ w.length ∧ w.length ≤ 12 ∧ Gr.loopB (es l) w = true ∧ ∀ x ∈ w, Gr.inR l.length x = true := by
  unfold loopIs at h
  simp only [Bool.and_eq_true, decide_eq_true_eq] at h
  refine ⟨h.1.1.1, h.1.1.2, h.1.2, h.2, ?_⟩
  obtain ⟨_, u, h2, _⟩ := Gr.loop_iff.mp h.2
  have := Gr.chn_nz h2
  rwa [es_length] at this
theorem l13Error_eq (n : Int) (l : List Rn) (w : List Int) (hl : l.length ≤ 1000000000) (h : loopIs n l w = true) (k : Nat) (hk : 14 ≤ k) : spec_l13Error.f k l w = some (Gr.err (rs l) w) := by
  have f := loop_facts h
  unfold spec_l13Error.f
  rw [sError_l0 l n (valid_iff.mp f.1).2.2.2 hl w (by omega) f.2.2.2.2 k 0 0 (by omega) (by omega) (by omega) (by omega) (by omega)]
  simp
theorem iLoopError_eq (n : Int) (l : List Rn) (w : List Int) (hl : l.length ≤ 1000000000) (hw : w.length ≤ 1000000000) (k : Nat) (hk : 2 * l.length + 2 * w.length + 20 ≤ k) : impl_LoopError.f k n l w = some (loopError n l w) := by
  unfold impl_LoopError.f loopError
  rw [iLoopIs_eq n l w hl hw k (by omega), Option.bind_some]
  by_cases h : loopIs n l w = true
  · have f := loop_facts h
    rw [if_pos h, if_pos h, iError_l0 l n (valid_iff.mp f.1).2.2.2 hl w (by omega) f.2.2.2.2 k 0 0 (by omega) (by omega) (by omega) (by omega) (by omega)]
    simp
  · rw [if_neg h, if_neg h]
theorem sLoopError_eq (n : Int) (l : List Rn) (w : List Int) (hl : l.length ≤ 1000000000) (hw : w.length ≤ 1000000000) (k : Nat) (hk : 2 * l.length + 2 * w.length + 20 ≤ k) : spec_LoopError.f k n l w = some (loopError n l w) := by
  unfold spec_LoopError.f loopError
  rw [sLoopIs_eq n l w hl hw k (by omega), Option.bind_some]
  by_cases h : loopIs n l w = true
  · rw [if_pos h, if_pos h, l13Error_eq n l w hl h k (by omega), Option.bind_some]
  · rw [if_neg h, if_neg h]
end Go.Proofs.Ytbnndmkkmceenaa.Pure
