/- Picked runs, trees and the first tree, as both sides come to them. -/
import Derived.Test.YtbnndmkkmceenaaNw
import Derived.Test.YtbnndmkkmceenaaP0x30
import Derived.Test.YtbnndmkkmceenaaP0x45
import Derived.Test.YtbnndmkkmceenaaP1x5
namespace Go.Proofs.Ytbnndmkkmceenaa.Pure
set_option linter.unusedVariables false
set_option linter.unusedSimpArgs false
open Go.RowKit Go.Proofs.Ytbnndmkkmceenaa.P0 Go.Proofs.Ytbnndmkkmceenaa.P1 Go.Proofs.Ytbnndmkkmceenaa.Hand Go.Proofs.YtbnndmkkmceenaaW.PrintWords Go.Proofs.YtbnndmkkmceenaaW.PrintLast
def pick (l : List Rn) (t : List Int) : List Rn := t.map (fun i => rd_T36 l i)
theorem es_pick (l : List Rn) (t : List Int) : es (pick l t) = Gr.pk (es l) t := by
  rw [es_eq]
  unfold pick Gr.pk
  rw [List.map_map]
  apply List.map_congr_left
  intro k _
  rw [es_ed, rd_nat]
  rfl
theorem pick_length (l : List Rn) (t : List Int) : (pick l t).length = t.length := by unfold pick; simp
theorem pick_ok {n : Int} {l : List Rn} {t : List Int} (hr : ∀ r ∈ l, okRun n r = true) (ht : ∀ x ∈ t, 0 ≤ x ∧ x < l.length) : ∀ r ∈ pick l t, okRun n r = true := by
  intro r hm
  unfold pick at hm
  obtain ⟨x, hx, rfl⟩ := List.mem_map.mp hm
  exact hr _ (rdR_mem (ht x hx).1 (ht x hx).2)
theorem pick_valid {n : Int} {l : List Rn} {t : List Int} (hv : valid n l = true) (ht : ∀ x ∈ t, 0 ≤ x ∧ x < l.length) (hl : t.length ≤ 12) : valid n (pick l t) = true := by
  have v := valid_iff.mp hv
  exact valid_iff.mpr ⟨v.1, v.2.1, by rw [pick_length]; exact hl, pick_ok v.2.2.2 ht⟩
theorem pick_step {l : List Rn} {t : List Int} {i : Int} (h0 : 0 ≤ i) (h1 : i < t.length) (x : List Rn) : (x ++ [rd_T36 l (rd t i)]) ++ pick l (t.drop (i + 1).toNat) = x ++ pick l (t.drop i.toNat) := by
  rw [drop_int h0 h1]
  unfold pick
  simp
theorem int_mem {t : List Int} {i : Int} (h0 : 0 ≤ i) (h1 : i < t.length) : rd t i ∈ t := by
  unfold rd
  rw [List.getD_eq_getElem?_getD, List.getElem?_eq_getElem (by omega), Option.getD_some]
  exact List.getElem_mem _
theorem iPick_l0 (l : List Rn) (t : List Int) (ht : ∀ x ∈ t, 0 ≤ x ∧ x < l.length) (hb : t.length ≤ 1000000000) : ∀ (k : Nat) (i : Int) (x : List Rn), 0 ≤ i → i ≤ t.length → t.length < k + i → (x.length : Int) = i → impl_pick.l0 k l x t (t.length : Int) i = some (x ++ pick l (t.drop i.toNat))
  | 0, i, x, _, h1, h2, _ => by omega
  | k + 1, i, x, h0, h1, h2, h3 => by
    simp only [impl_pick.l0]
    by_cases c : i < (t.length : Int)
    · have := ht _ (int_mem h0 c)
      rw [if_pos c, if_pos h0, if_pos c, if_pos this.1, if_pos this.2, if_pos (by omega), w64 _ (by omega) (by omega)]
      show impl_pick.l0 k l (x ++ [rd_T36 l (rd t i)]) t (t.length : Int) (i + 1) = _
      rw [iPick_l0 l t ht hb k (i + 1) _ (by omega) (by omega) (by omega) (by simp; omega), pick_step h0 c]
    · rw [if_neg c, drop_end (by omega)]; simp [pick]
theorem sPick_l0 (l : List Rn) (t : List Int) (ht : ∀ x ∈ t, 0 ≤ x ∧ x < l.length) (hb : t.length ≤ 1000000000) : ∀ (k : Nat) (i : Int) (x : List Rn), 0 ≤ i → i ≤ t.length → t.length < k + i → (x.length : Int) = i → spec_l12Some.l0 k l t x i = some (x ++ pick l (t.drop i.toNat))
  | 0, i, x, _, h1, h2, _ => by omega
  | k + 1, i, x, h0, h1, h2, h3 => by
    simp only [spec_l12Some.l0]
    by_cases c : i < (t.length : Int)
    · have := ht _ (int_mem h0 c)
      rw [if_pos c, if_pos h0, if_pos this.1, if_pos this.2, if_pos (by omega), w64 _ (by omega) (by omega)]
      show spec_l12Some.l0 k l t (x ++ [rd_T36 l (rd t i)]) (i + 1) = _
      rw [sPick_l0 l t ht hb k (i + 1) _ (by omega) (by omega) (by omega) (by simp; omega), pick_step h0 c]
    · rw [if_neg c, drop_end (by omega)]; simp [pick]
theorem iPick_eq {l : List Rn} {t : List Int} (ht : ∀ x ∈ t, 0 ≤ x ∧ x < l.length) (hb : t.length ≤ 1000000000) (k : Nat) (hk : t.length + 2 ≤ k) : impl_pick.f k l t = some (pick l t) := by
  unfold impl_pick.f
  rw [if_pos (by omega), if_pos (by omega), iPick_l0 l t ht hb k 0 [] (by omega) (by omega) (by omega) rfl]
  simp
theorem sPick_eq {l : List Rn} {t : List Int} (ht : ∀ x ∈ t, 0 ≤ x ∧ x < l.length) (hb : t.length ≤ 1000000000) (k : Nat) (hk : t.length + 2 ≤ k) : spec_l12Some.f k l t = some (pick l t) := by
  unfold spec_l12Some.f
  rw [sPick_l0 l t ht hb k 0 [] (by omega) (by omega) (by omega) rfl]
  simp
def treeIs (n : Int) (l : List Rn) (t : List Int) : Bool := valid n l && decide ((t.length : Int) = n - 1) && Gr.asc (-1) l.length t && Gr.wholeB n (Gr.pk (es l) t)
theorem treeIs_iff {n : Int} {l : List Rn} {t : List Int} : treeIs n l t = true ↔ valid n l = true ∧ (t.length : Int) = n - 1 ∧ Gr.asc (-1) l.length t = true ∧ Gr.Whole n (Gr.pk (es l) t) := by
  unfold treeIs
  simp only [Bool.and_eq_true, decide_eq_true_eq, Gr.wholeB_iff, and_assoc]
theorem asc_in {N : Nat} {t : List Int} (h : Gr.asc (-1) N t = true) : ∀ x ∈ t, 0 ≤ x ∧ x < N := fun x hx => by
  have := Gr.asc_mem h x hx; omega
theorem iTree_l0 {n : Int} {l : List Rn} (hv : valid n l = true) (t : List Int) (hb : (t.length : Int) = n - 1) : ∀ (k : Nat) (i last : Int), 0 ≤ i → i ≤ t.length → 300 < k + i → (Gr.asc last l.length (t.drop i.toNat) = true → Gr.asc (-1) l.length t = true) → impl_TreeIs.l0 k n l t last t (t.length : Int) i = some (Gr.asc last l.length (t.drop i.toNat) && Gr.wholeB n (Gr.pk (es l) t))
  | 0, i, last, h0, h1, h2, hw => by have := valid_iff.mp hv; omega
  | k + 1, i, last, h0, h1, h2, hw => by
    have v := valid_iff.mp hv
    simp only [impl_TreeIs.l0]
    by_cases c : i < (t.length : Int)
    · rw [if_pos c, if_pos h0, if_pos c, w64 (i + 1) (by omega) (by omega)]
      rw [drop_int h0 c] at hw ⊢
      simp only [Gr.asc] at hw ⊢
      by_cases d : rd t i ≤ last
      · rw [if_pos d, decide_eq_false (show ¬ last < rd t i by omega)]; simp
      · rw [if_neg d]
        by_cases e : rd t i ≥ (l.length : Int)
        · rw [if_pos e, decide_eq_false (show ¬ rd t i < (l.length : Int) by omega)]; simp
        · rw [if_neg e, decide_eq_true (show last < rd t i by omega), decide_eq_true (show rd t i < (l.length : Int) by omega), Bool.true_and, Bool.true_and]
          rw [decide_eq_true (show last < rd t i by omega), decide_eq_true (show rd t i < (l.length : Int) by omega), Bool.true_and, Bool.true_and] at hw
          exact iTree_l0 hv t hb k (i + 1) _ (by omega) (by omega) (by omega) hw
    · rw [drop_end (by omega)] at hw ⊢
      have hin := asc_in (hw rfl)
      rw [if_neg c, iPick_eq hin (by omega) k (by omega), Option.bind_some, iNetWhole_eq _ _ (by rw [pick_length]; omega) k (by rw [pick_length]; omega)]
      unfold netWhole
      rw [pick_valid hv hin (by omega), es_pick]
      rfl
theorem iTreeIs_eq (n : Int) (l : List Rn) (t : List Int) (hl : l.length ≤ 1000000000) (hb : t.length ≤ 1000000000) (k : Nat) (hk : 2 * l.length + 1000 ≤ k) : impl_TreeIs.f k n l t = some (treeIs n l t) := by
  unfold impl_TreeIs.f treeIs
  rw [iNetValid_eq n l hl k (by omega), Option.bind_some]
  obtain ⟨k, rfl⟩ : ∃ m, k = m + 1 := ⟨k - 1, by omega⟩
  simp only [impl_TreeIs.j0]
  by_cases hv : valid n l = true
  · have v := valid_iff.mp hv
    rw [if_pos hv, hv, w64 _ (by omega) (by omega)]
    by_cases hn : (t.length : Int) = n - 1
    · rw [if_neg (by simp [hn]), iTree_l0 hv t hn k 0 (-1) (by omega) (by omega) (by omega) (fun h => by simpa using h), decide_eq_true hn]
      simp
    · rw [if_pos (by simpa using hn), decide_eq_false hn]
      simp
  · rw [if_neg hv]
    have : valid n l = false := by simpa using hv
    simp [this]
theorem sTree_l0 {n : Int} {l : List Rn} (hv : valid n l = true) (t : List Int) (hb : (t.length : Int) = n - 1) : ∀ (k : Nat) (i last : Int), 0 ≤ i → i ≤ t.length → 300 < k + i → -1 ≤ last → last ≤ l.length → (Gr.asc last l.length (t.drop i.toNat) = true → Gr.asc (-1) l.length t = true) → spec_TreeIs.l0 k n l t last i = some (Gr.asc last l.length (t.drop i.toNat) && Gr.wholeB n (Gr.pk (es l) t))
  | 0, i, last, h0, h1, h2, h3, h4, hw => by have := valid_iff.mp hv; omega
  | k + 1, i, last, h0, h1, h2, h3, h4, hw => by
    have v := valid_iff.mp hv
    simp only [spec_TreeIs.l0]
    by_cases c : i < (t.length : Int)
    · rw [if_pos c, if_pos h0, l6In_eq, Option.bind_some, w64 (last + 1) (by omega) (by omega), w64 _ (by omega) (by omega), w64 (i + 1) (by omega) (by omega)]
      rw [drop_int h0 c] at hw ⊢
      simp only [Gr.asc] at hw ⊢
      by_cases d : last < rd t i ∧ rd t i < (l.length : Int)
      · rw [if_pos (by simp; omega), decide_eq_true d.1, decide_eq_true d.2, Bool.true_and, Bool.true_and]
        rw [decide_eq_true d.1, decide_eq_true d.2, Bool.true_and, Bool.true_and] at hw
        exact sTree_l0 hv t hb k (i + 1) _ (by omega) (by omega) (by omega) (by omega) (by omega) hw
      · rw [if_neg (by simp; omega)]
        congr 1; symm
        rw [Bool.eq_false_iff]
        intro z
        simp only [Bool.and_eq_true, decide_eq_true_eq] at z
        exact d ⟨z.1.1.1, z.1.1.2⟩
    · rw [drop_end (by omega)] at hw ⊢
      have hin := asc_in (hw rfl)
      rw [if_neg c, sPick_eq hin (by omega) k (by omega), Option.bind_some, sNetWhole_eq _ _ (by rw [pick_length]; omega) k (by rw [pick_length]; omega)]
      unfold netWhole
      rw [pick_valid hv hin (by omega), es_pick]
      rfl
theorem sTreeIs_eq (n : Int) (l : List Rn) (t : List Int) (hl : l.length ≤ 1000000000) (hb : t.length ≤ 1000000000) (k : Nat) (hk : 2 * l.length + 1000 ≤ k) : spec_TreeIs.f k n l t = some (treeIs n l t) := by
  unfold spec_TreeIs.f treeIs
  rw [sNetValid_eq n l hl k (by omega), Option.bind_some]
  obtain ⟨k, rfl⟩ : ∃ m, k = m + 1 := ⟨k - 1, by omega⟩
  simp only [spec_TreeIs.j0]
  by_cases hv : valid n l = true
  · have v := valid_iff.mp hv
    rw [if_pos hv, hv, w64 _ (by omega) (by omega)]
    by_cases hn : (t.length : Int) = n - 1
    · rw [if_neg (by simp [hn]), sTree_l0 hv t hn k 0 (-1) (by omega) (by omega) (by omega) (by omega) (by omega) (fun h => by simpa using h), decide_eq_true hn]
      simp
    · rw [if_pos (by simpa using hn), decide_eq_false hn]
      simp
  · rw [if_neg hv]
    have : valid n l = false := by simpa using hv
    simp [this]
def treeFirst (n : Int) (l : List Rn) : List Int × Bool := if netWhole n l = true then (Gr.first (es l), true) else ([], false)
theorem firstN_in {l : List Rn} {i : Int} (h1 : i ≤ l.length) : ∀ x ∈ Gr.firstN (es l) i.toNat, 0 ≤ x ∧ x < l.length := fun x hx => by
  have := Gr.firstN_mem hx; omega
theorem firstN_len {e : List Gr.E} (m : Nat) : (Gr.firstN e m).length ≤ m := by
  unfold Gr.firstN
  rw [List.length_map]
  have := List.length_filter_le (Gr.links e) (List.range m)
  rwa [List.length_range] at this
theorem firstN_next {l : List Rn} {n i : Int} (he : Gr.Ends n (es l)) (h0 : 0 ≤ i) (h1 : i < l.length) : (Gr.gt (Gr.labs n (Gr.pk (es l) (Gr.firstN (es l) i.toNat))) (rd_T36 l i).f0 = Gr.gt (Gr.labs n (Gr.pk (es l) (Gr.firstN (es l) i.toNat))) (rd_T36 l i).f1 → 0 ≤ (rd_T36 l i).f0 → (rd_T36 l i).f0 < n → 0 ≤ (rd_T36 l i).f1 → (rd_T36 l i).f1 < n → Gr.firstN (es l) (i + 1).toNat = Gr.firstN (es l) i.toNat) ∧ (Gr.gt (Gr.labs n (Gr.pk (es l) (Gr.firstN (es l) i.toNat))) (rd_T36 l i).f0 ≠ Gr.gt (Gr.labs n (Gr.pk (es l) (Gr.firstN (es l) i.toNat))) (rd_T36 l i).f1 → 0 ≤ (rd_T36 l i).f0 → (rd_T36 l i).f0 < n → 0 ≤ (rd_T36 l i).f1 → (rd_T36 l i).f1 < n → Gr.firstN (es l) (i + 1).toNat = Gr.firstN (es l) i.toNat ++ [i]) := by
  have hs := Gr.firstN_succ (es l) i.toNat
  rw [show i.toNat + 1 = (i + 1).toNat by omega, show ((i.toNat : Nat) : Int) = i by omega] at hs
  have hl := (Gr.lab_firstN he i.toNat (by rw [es_length]; omega)).1
  unfold Gr.links at hs
  rw [es_ed, rd_nat, ← hl] at hs
  simp only [bne_iff_ne, ne_eq, ite_not] at hs
  constructor
  · intro e a b c d
    rw [Gr.gt_labs _ a b, Gr.gt_labs _ c d] at e
    rw [hs, if_pos e, List.append_nil]
  · intro e a b c d
    rw [Gr.gt_labs _ a b, Gr.gt_labs _ c d] at e
    rw [hs, if_neg e]
theorem iFirst_l0 {n : Int} {l : List Rn} (hv : valid n l = true) : ∀ (k : Nat) (i : Int), 0 ≤ i → i ≤ l.length → l.length + 300 < k + i → impl_TreeFirst.l0 k n l (Gr.firstN (es l) i.toNat) l (l.length : Int) i = some (Gr.first (es l), true)
  | 0, i, h0, h1, h2 => by have := valid_iff.mp hv; omega
  | k + 1, i, h0, h1, h2 => by
    have v := valid_iff.mp hv
    simp only [impl_TreeFirst.l0]
    by_cases c : i < (l.length : Int)
    · have hin := firstN_in (l := l) (i := i) h1
      have hfl := firstN_len (e := es l) i.toNat
      have ok := okRun_iff.mp (v.2.2.2 _ (rdR_mem h0 c))
      rw [if_pos c, if_pos h0, if_pos c, iPick_eq hin (by omega) k (by omega), Option.bind_some, leastLinked_eq v.1 v.2.1 (by rw [pick_length]; omega) (pick_ok v.2.2.2 hin), Option.bind_some, es_pick]
      rw [if_pos ok.1.1, if_pos (by rw [Gr.labs_length]; omega), if_pos ok.2.1.1, if_pos (by rw [Gr.labs_length]; omega), w64 (i + 1) (by omega) (by omega), rd_gt, rd_gt]
      have nx := firstN_next (ok_ends v.2.2.2) h0 c
      have ih := iFirst_l0 hv k (i + 1) (by omega) (by omega) (by omega)
      by_cases d : Gr.gt (Gr.labs n (Gr.pk (es l) (Gr.firstN (es l) i.toNat))) (rd_T36 l i).f0 = Gr.gt (Gr.labs n (Gr.pk (es l) (Gr.firstN (es l) i.toNat))) (rd_T36 l i).f1
      · rw [nx.1 d ok.1.1 ok.1.2 ok.2.1.1 ok.2.1.2] at ih
        rw [if_pos d, ih]
      · rw [nx.2 d ok.1.1 ok.1.2 ok.2.1.1 ok.2.1.2] at ih
        rw [if_neg d, if_pos (by omega), ih]
    · rw [if_neg c, show i = l.length by omega, Int.toNat_natCast]
      unfold Gr.first
      rw [es_length]
theorem sFirst_l0 {n : Int} {l : List Rn} (hv : valid n l = true) : ∀ (k : Nat) (i : Int), 0 ≤ i → i ≤ l.length → l.length + 300 < k + i → spec_TreeFirst.l0 k n l (Gr.firstN (es l) i.toNat) i = some (Gr.first (es l), true)
  | 0, i, h0, h1, h2 => by have := valid_iff.mp hv; omega
  | k + 1, i, h0, h1, h2 => by
    have v := valid_iff.mp hv
    simp only [spec_TreeFirst.l0]
    by_cases c : i < (l.length : Int)
    · have hin := firstN_in (l := l) (i := i) h1
      have hfl := firstN_len (e := es l) i.toNat
      have ok := okRun_iff.mp (v.2.2.2 _ (rdR_mem h0 c))
      rw [if_pos c, sPick_eq hin (by omega) k (by omega), Option.bind_some, l11Linked_eq (by omega) v.2.1 (by rw [pick_length]; omega) (pick_ok v.2.2.2 hin) k (by rw [pick_length]; omega), Option.bind_some, es_pick, if_pos h0]
      rw [if_pos ok.1.1, if_pos (by rw [Gr.labs_length]; omega), if_pos ok.2.1.1, if_pos (by rw [Gr.labs_length]; omega), w64 (i + 1) (by omega) (by omega), rd_gt, rd_gt]
      have nx := firstN_next (ok_ends v.2.2.2) h0 c
      have ih := sFirst_l0 hv k (i + 1) (by omega) (by omega) (by omega)
      by_cases d : Gr.gt (Gr.labs n (Gr.pk (es l) (Gr.firstN (es l) i.toNat))) (rd_T36 l i).f0 = Gr.gt (Gr.labs n (Gr.pk (es l) (Gr.firstN (es l) i.toNat))) (rd_T36 l i).f1
      · rw [nx.1 d ok.1.1 ok.1.2 ok.2.1.1 ok.2.1.2] at ih
        rw [if_pos d, ih]
      · rw [nx.2 d ok.1.1 ok.1.2 ok.2.1.1 ok.2.1.2] at ih
        rw [if_neg d, if_pos (by omega), ih]
    · rw [if_neg c, show i = l.length by omega, Int.toNat_natCast]
      unfold Gr.first
      rw [es_length]
theorem iTreeFirst_eq (n : Int) (l : List Rn) (hl : l.length ≤ 1000000000) (k : Nat) (hk : 2 * l.length + 1000 ≤ k) : impl_TreeFirst.f k n l = some (treeFirst n l) := by
  unfold impl_TreeFirst.f treeFirst
  rw [iNetWhole_eq n l hl k (by omega), Option.bind_some]
  by_cases hw : netWhole n l = true
  · rw [if_pos hw, if_pos hw]
    have := iFirst_l0 (netWhole_iff.mp hw).1 k 0 (by omega) (by omega) (by omega)
    exact this
  · rw [if_neg hw, if_neg hw]
theorem sTreeFirst_eq (n : Int) (l : List Rn) (hl : l.length ≤ 1000000000) (k : Nat) (hk : 2 * l.length + 1000 ≤ k) : spec_TreeFirst.f k n l = some (treeFirst n l) := by
  unfold spec_TreeFirst.f treeFirst
  rw [Option.bind_some, sNetWhole_eq n l hl k (by omega), Option.bind_some]
  by_cases hw : netWhole n l = true
  · rw [if_pos hw, if_pos hw]
    have := sFirst_l0 (netWhole_iff.mp hw).1 k 0 (by omega) (by omega) (by omega)
    exact this
  · rw [if_neg hw, if_neg hw]
theorem treeFirst_length (n : Int) (l : List Rn) : (treeFirst n l).1.length ≤ l.length := by
  unfold treeFirst
  split
  · have := firstN_len (e := es l) (es l).length
    rw [es_length] at this
    unfold Gr.first
    rw [es_length]; exact this
  · simp
end Go.Proofs.Ytbnndmkkmceenaa.Pure
