import Derived.Laws.BitsLemmas
import Derived.OpenShut
import Derived.RowKit
import Derived.Test.YtbnndmkkmceenaaP5x2
/- The law FnTreeWeightOne of the printed functions: its plain proof, in one text (wip/tools/fuse.py). -/
namespace Go.Proofs.Ytbnndmkkmceenaa.Pure
set_option linter.unusedVariables false
set_option linter.unusedSimpArgs false
open Go.RowKit Go.Proofs.Ytbnndmkkmceenaa.P0 Go.Proofs.Ytbnndmkkmceenaa.P1 Go.Proofs.Ytbnndmkkmceenaa.P5 Go.Proofs.Ytbnndmkkmceenaa.Hand Go.Proofs.YtbnndmkkmceenaaW.PrintWords Go.Proofs.YtbnndmkkmceenaaW.PrintLast
abbrev Rn := S36
theorem w64 (x : Int) (h0 : -9223372036854775808 ≤ x) (h1 : x ≤ 9223372036854775807) : wrap64 x = x := by unfold wrap64; omega
theorem drop_rd {l : List Rn} {i : Int} (h0 : 0 ≤ i) (h1 : i < l.length) : l.drop i.toNat = rd_T36 l i :: l.drop (i + 1).toNat := by
  rw [List.drop_eq_getElem_cons (by omega)]
  unfold rd_T36
  rw [List.getD_eq_getElem?_getD, List.getElem?_eq_getElem (by omega), Option.getD_some, show (i + 1).toNat = i.toNat + 1 by omega]
theorem drop_int {l : List Int} {i : Int} (h0 : 0 ≤ i) (h1 : i < l.length) : l.drop i.toNat = rd l i :: l.drop (i + 1).toNat := by
  rw [List.drop_eq_getElem_cons (by omega)]
  unfold rd
  rw [List.getD_eq_getElem?_getD, List.getElem?_eq_getElem (by omega), Option.getD_some, show (i + 1).toNat = i.toNat + 1 by omega]
theorem drop_end {α : Type} {l : List α} {i : Int} (h : (l.length : Int) ≤ i) : l.drop i.toNat = [] := List.drop_eq_nil_of_le (by omega)
def okRun (n : Int) (r : Rn) : Bool := decide (0 ≤ r.f0) && decide (r.f0 < n) && decide (0 ≤ r.f1) && decide (r.f1 < n) && decide (r.f0 ≠ r.f1) && decide (-100000 ≤ r.f2) && decide (r.f2 ≤ 100000) && decide (1 ≤ r.f3) && decide (r.f3 ≤ 9)
theorem okRun_iff {n : Int} {r : Rn} : okRun n r = true ↔ (0 ≤ r.f0 ∧ r.f0 < n) ∧ (0 ≤ r.f1 ∧ r.f1 < n) ∧ r.f0 ≠ r.f1 ∧ (-100000 ≤ r.f2 ∧ r.f2 ≤ 100000) ∧ (1 ≤ r.f3 ∧ r.f3 ≤ 9) := by
  unfold okRun
  simp only [Bool.and_eq_true, decide_eq_true_eq, and_assoc]
def valid (n : Int) (l : List Rn) : Bool := decide (2 ≤ n) && decide (n ≤ 6) && decide (l.length ≤ 12) && l.all (okRun n)
theorem valid_iff {n : Int} {l : List Rn} : valid n l = true ↔ 2 ≤ n ∧ n ≤ 6 ∧ l.length ≤ 12 ∧ ∀ r ∈ l, okRun n r = true := by
  unfold valid
  simp only [Bool.and_eq_true, decide_eq_true_eq, and_assoc, List.all_eq_true]
theorem within_eq (a b : Int) (h0 : 0 ≤ b) (h1 : b ≤ 9000000000000000000) : impl_within.f a b = some (decide (-b ≤ a) && decide (a ≤ b)) := by
  unfold impl_within.f
  rw [w64 _ (by omega) (by omega)]
  by_cases h : -b ≤ a
  · rw [if_pos h]; simp [h]
  · rw [if_neg h]; simp [h]
theorem runValid_eq (n : Int) (r : Rn) : impl_runValid.f n r.f0 r.f1 r.f2 r.f3 = some (okRun n r) := by
  unfold impl_runValid.f okRun
  rw [within_eq _ _ (by omega) (by omega)]
  by_cases a : r.f0 < 0
  · rw [if_pos a]; congr 1; symm; simp [show ¬ 0 ≤ r.f0 by omega]
  · rw [if_neg a]
    by_cases b : r.f0 ≥ n
    · rw [if_pos b]; congr 1; symm; simp [show ¬ r.f0 < n by omega]
    · rw [if_neg b]
      by_cases c : r.f1 < 0
      · rw [if_pos c]; congr 1; symm; simp [show ¬ 0 ≤ r.f1 by omega]
      · rw [if_neg c]
        by_cases d : r.f1 ≥ n
        · rw [if_pos d]; congr 1; symm; simp [show ¬ r.f1 < n by omega]
        · rw [if_neg d]
          by_cases e : r.f0 = r.f1
          · rw [if_pos e]; congr 1; symm; simp [e]
          · rw [if_neg e]
            simp only [Option.bind_some, Bool.and_eq_true, decide_eq_true_eq]
            have h0 : 0 ≤ r.f0 := by omega
            have h1 : r.f0 < n := by omega
            have h2 : 0 ≤ r.f1 := by omega
            have h3 : r.f1 < n := by omega
            simp only [h0, h1, h2, h3, e, ne_eq, not_false_eq_true, decide_true, Bool.true_and]
            by_cases f : -100000 ≤ r.f2 ∧ r.f2 ≤ 100000
            · rw [if_pos f]
              simp only [f.1, f.2, decide_true, Bool.true_and]
              by_cases g : r.f3 ≥ 1
              · rw [if_pos g, decide_eq_true (show (1:Int) ≤ r.f3 from g), Bool.true_and]
              · rw [if_neg g, decide_eq_false (show ¬ (1:Int) ≤ r.f3 from g), Bool.false_and]
            · rw [if_neg f]
              by_cases g : -100000 ≤ r.f2
              · have : ¬ r.f2 ≤ 100000 := fun z => f ⟨g, z⟩
                simp [g, this]
              · simp [g]
theorem iNetValid_l0 (n : Int) (l : List Rn) (hl : l.length ≤ 1000000000) : ∀ (k : Nat) (i : Int), 0 ≤ i → i ≤ l.length → l.length < k + i → impl_NetValid.l0 k n l (l.length : Int) i = some ((l.drop i.toNat).all (okRun n))
  | 0, i, _, h1, h2 => by omega
  | k + 1, i, h0, h1, h2 => by
    simp only [impl_NetValid.l0]
    by_cases h : i < (l.length : Int)
    · rw [if_pos h, if_pos h0, if_pos h, runValid_eq, Option.bind_some, drop_rd h0 h, List.all_cons]
      cases hv : okRun n (rd_T36 l i) with
      | true =>
        rw [if_pos rfl, w64 _ (by omega) (by omega), iNetValid_l0 n l hl k (i + 1) (by omega) (by omega) (by omega)]
        rfl
      | false => rfl
    · rw [if_neg h, drop_end (by omega)]; rfl
theorem iNetValid_eq (n : Int) (l : List Rn) (hl : l.length ≤ 1000000000) (k : Nat) (hk : l.length + 2 ≤ k) : impl_NetValid.f k n l = some (valid n l) := by
  unfold impl_NetValid.f valid
  obtain ⟨k, rfl⟩ : ∃ m, k = m + 1 := ⟨k - 1, by omega⟩
  simp only [impl_NetValid.j0]
  by_cases a : n < 2
  · rw [if_pos a, if_pos trivial]; congr 1; symm; simp [show ¬ 2 ≤ n by omega]
  · rw [if_neg a]
    by_cases b : n > 6
    · rw [if_pos b, if_pos trivial]; congr 1; symm; simp [show ¬ n ≤ 6 by omega]
    · rw [if_neg b]
      have h2 : 2 ≤ n := by omega
      have h6 : n ≤ 6 := by omega
      simp only [h2, h6, decide_true, Bool.true_and, decide_eq_true_eq]
      by_cases c : (l.length : Int) > 12
      · rw [if_pos c]; congr 1; symm; simp [show ¬ l.length ≤ 12 by omega]
      · rw [if_neg c, iNetValid_l0 n l hl k 0 (by omega) (by omega) (by omega)]
        simp [show l.length ≤ 12 by omega]
theorem l6In_eq (a b c : Int) : spec_l6In.f a b c = some (decide (b ≤ a) && decide (a ≤ c)) := by
  unfold spec_l6In.f
  by_cases h : a ≥ b
  · rw [if_pos h, decide_eq_true (show b ≤ a from h), Bool.true_and]
  · rw [if_neg h, decide_eq_false (show ¬ b ≤ a from h), Bool.false_and]
theorem sNetValid_l0 (n : Int) (hn : 2 ≤ n ∧ n ≤ 6) (l : List Rn) (hl : l.length ≤ 1000000000) : ∀ (k : Nat) (i : Int), 0 ≤ i → i ≤ l.length → 2 * (l.length : Int) < k + 2 * i → spec_NetValid.l0 k n l i = some ((l.drop i.toNat).all (okRun n))
  | 0, i, _, h1, h2 => by omega
  | k + 1, i, h0, h1, h2 => by
    simp only [spec_NetValid.l0]
    by_cases h : i < (l.length : Int)
    · rw [if_pos h, if_pos h0, l6In_eq, l6In_eq, w64 _ (by omega) (by omega), drop_rd h0 h, List.all_cons]
      obtain ⟨k, rfl⟩ : ∃ m, k = m + 1 := ⟨k - 1, by omega⟩
      simp only [Option.bind_some, spec_NetValid.j2, l6In_eq, if_true]
      rw [w64 _ (by omega) (by omega), sNetValid_l0 n hn l hl k (i + 1) (by omega) (by omega) (by omega)]
      generalize rd_T36 l i = r
      generalize (l.drop (i + 1).toNat).all (okRun n) = t
      have hk : okRun n r = ((decide (0 ≤ r.f0) && decide (r.f0 ≤ n - 1)) && ((decide (0 ≤ r.f1) && decide (r.f1 ≤ n - 1)) && (!(r.f0 == r.f1) && ((decide (-100000 ≤ r.f2) && decide (r.f2 ≤ 100000)) && (decide (1 ≤ r.f3) && decide (r.f3 ≤ 9)))))) := by
        rw [Bool.eq_iff_iff, okRun_iff]
        simp only [Bool.and_eq_true, decide_eq_true_eq, Bool.not_eq_true', beq_eq_false_iff_ne, ne_eq]
        omega
      rw [hk]
      generalize (decide (0 ≤ r.f0) && decide (r.f0 ≤ n - 1)) = b1
      generalize (decide (0 ≤ r.f1) && decide (r.f1 ≤ n - 1)) = b2
      generalize (r.f0 == r.f1) = b3
      generalize (decide (-100000 ≤ r.f2) && decide (r.f2 ≤ 100000)) = b4
      generalize (decide (1 ≤ r.f3) && decide (r.f3 ≤ 9)) = b5
      cases b1 <;> cases b2 <;> cases b3 <;> cases b4 <;> cases b5 <;> simp
    · rw [if_neg h, drop_end (by omega)]; rfl
theorem sNetValid_eq (n : Int) (l : List Rn) (hl : l.length ≤ 1000000000) (k : Nat) (hk : 2 * l.length + 2 ≤ k) : spec_NetValid.f k n l = some (valid n l) := by
  unfold spec_NetValid.f valid
  rw [l6In_eq, Option.bind_some]
  obtain ⟨k, rfl⟩ : ∃ m, k = m + 1 := ⟨k - 1, by omega⟩
  simp only [spec_NetValid.j0]
  by_cases a : 2 ≤ n ∧ n ≤ 6
  · simp only [a.1, a.2, decide_true, Bool.and_self, if_true, Bool.true_and, decide_eq_true_eq]
    by_cases c : (l.length : Int) > 12
    · rw [if_pos c]; congr 1; symm; simp [show ¬ l.length ≤ 12 by omega]
    · rw [if_neg c, sNetValid_l0 n a l hl k 0 (by omega) (by omega) (by omega)]
      simp [show l.length ≤ 12 by omega]
  · have : (decide (2 ≤ n) && decide (n ≤ 6)) = false := by
      rw [Bool.eq_false_iff]; simpa using fun z => by omega
    rw [this]; simp
theorem rdR_mem {l : List Rn} {i : Int} (h0 : 0 ≤ i) (h1 : i < l.length) : rd_T36 l i ∈ l := by
  unfold rd_T36
  rw [List.getD_eq_getElem?_getD, List.getElem?_eq_getElem (by omega), Option.getD_some]
  exact List.getElem_mem _
def rs (l : List Rn) : List Gr.R := l.map (fun r => (r.f0, r.f1, r.f2))
def es (l : List Rn) : List Gr.E := Gr.eds (rs l)
theorem es_eq (l : List Rn) : es l = l.map (fun r => (r.f0, r.f1)) := by unfold es rs Gr.eds; rw [List.map_map]; rfl
theorem es_length (l : List Rn) : (es l).length = l.length := by rw [es_eq]; simp
theorem rs_getD (l : List Rn) (k : Nat) : (rs l).getD k (0, 0, 0) = ((rd_T36 l k).f0, (rd_T36 l k).f1, (rd_T36 l k).f2) := by
  unfold rs rd_T36
  rw [List.getD_eq_getElem?_getD, List.getD_eq_getElem?_getD, List.getElem?_map, Int.toNat_natCast]
  cases l[k]? <;> rfl
theorem es_ed (l : List Rn) (k : Nat) : Gr.ed (es l) k = ((rd_T36 l k).f0, (rd_T36 l k).f1) := by
  unfold es; rw [Gr.ed_eds, rs_getD]
theorem rd_nat (l : List Rn) (i : Int) : rd_T36 l ((i.toNat : Nat) : Int) = rd_T36 l i := by
  unfold rd_T36; rw [Int.toNat_natCast]
theorem rd_gt (L : List Int) (i : Int) : rd L i = Gr.gt L i := rfl
theorem mn_min (a b : Int) : mn a b = min a b := by unfold mn; split <;> omega
theorem ok_ends {n : Int} {l : List Rn} (hr : ∀ r ∈ l, okRun n r = true) : Gr.Ends n (es l) := by
  intro e he
  rw [es_eq] at he
  obtain ⟨r, hm, rfl⟩ := List.mem_map.mp he
  have := okRun_iff.mp (hr r hm)
  exact ⟨this.1.1, this.1.2, this.2.1.1, this.2.1.2, this.2.2.1⟩
theorem leastLinked_eq {n : Int} {l : List Rn} (h2 : 2 ≤ n) (h6 : n ≤ 6) (hl : l.length ≤ 1000) (hr : ∀ r ∈ l, okRun n r = true) : impl_leastLinked.f n l = some (Gr.labs n (es l)) := by
  unfold impl_leastLinked.f
  have hw : l.all wfEnds = true := by
    rw [List.all_eq_true]
    intro r hm
    have := okRun_iff.mp (hr r hm)
    unfold wfEnds
    rw [WalkArith.wf_i64 (n := r.f0) (by omega), WalkArith.wf_i64 (n := r.f1) (by omega)]
    rfl
  rw [if_pos ⟨h2, h6, hl, hw⟩]
  have := Gr.least_labs (ok_ends hr) (by omega) (by omega) (k := 100) (by omega)
  unfold Gr.least at this
  rw [if_pos (by omega)] at this
  rw [← this, es_eq]
  rfl
theorem es_drop {l : List Rn} {i : Int} (h0 : 0 ≤ i) (h1 : i < l.length) : (es l).drop i.toNat = ((rd_T36 l i).f0, (rd_T36 l i).f1) :: (es l).drop (i + 1).toNat := by
  rw [es_eq, ← List.map_drop, drop_rd h0 h1, ← List.map_drop]; rfl
theorem linked_l2 {n : Int} {l : List Rn} (hn : n ≤ 1000) (hl : l.length ≤ 1000000000) (hr : ∀ r ∈ l, okRun n r = true) (x7 : Int) : ∀ (d k : Nat) (i : Int) (out : List Int), 0 ≤ i → i + d = l.length → (out.length : Int) = n → spec_l11Linked.l2 (k + d + 1) n l out x7 i = spec_l11Linked.l1 k n l (((es l).drop i.toNat).foldl Gr.stepL out) (wrap64 (x7 + 1))
  | 0, k, i, out, h0, h1, _ => by
    show spec_l11Linked.l2 (k + 1) n l out x7 i = _
    simp only [spec_l11Linked.l2]
    rw [if_neg (by omega), List.drop_eq_nil_of_le (by rw [es_length]; omega)]
    rfl
  | d + 1, k, i, out, h0, h1, ho => by
    obtain ⟨m, hm⟩ : ∃ m, m = k + d + 1 := ⟨_, rfl⟩
    rw [show k + (d + 1) + 1 = m + 1 by omega]
    simp only [spec_l11Linked.l2]
    rw [hm]
    have ok := okRun_iff.mp (hr _ (rdR_mem h0 (by omega)))
    rw [if_pos (by omega), if_pos h0, if_pos ok.1.1, if_pos (by omega), if_pos ok.2.1.1, if_pos (by omega), w64 (i + 1) (by omega) (by omega), es_drop h0 (by omega), List.foldl_cons]
    rw [mn_min, rd_gt, rd_gt]
    exact linked_l2 hn hl hr x7 d k (i + 1) (Gr.stepL out ((rd_T36 l i).f0, (rd_T36 l i).f1)) (by omega) (by omega) (by unfold Gr.stepL; simpa using ho)
theorem stepL_length (fs : List Gr.E) : ∀ (out : List Int), (fs.foldl Gr.stepL out).length = out.length := by
  induction fs with
  | nil => intro out; rfl
  | cons f fs ih => intro out; rw [List.foldl_cons, ih]; unfold Gr.stepL; simp
theorem linked_l1 {n : Int} {l : List Rn} (hn : n ≤ 1000) (hl : l.length ≤ 1000000000) (hr : ∀ r ∈ l, okRun n r = true) : ∀ (d k : Nat) (i : Int) (out : List Int), 0 ≤ i → i + d = n → (out.length : Int) = n → spec_l11Linked.l1 (k + d * (l.length + 2) + 1) n l out i = some (Gr.rounds (es l) d out)
  | 0, k, i, out, h0, h1, _ => by
    rw [show k + 0 * (l.length + 2) + 1 = k + 1 by omega]
    simp only [spec_l11Linked.l1]
    rw [if_neg (by omega)]
    rfl
  | d + 1, k, i, out, h0, h1, ho => by
    obtain ⟨m, hm⟩ : ∃ m, m = (k + d * (l.length + 2) + 1) + l.length + 1 := ⟨_, rfl⟩
    rw [show k + (d + 1) * (l.length + 2) + 1 = m + 1 by rw [Nat.succ_mul]; omega]
    simp only [spec_l11Linked.l1]
    rw [hm]
    rw [if_pos (by omega), linked_l2 hn hl hr i l.length (k + d * (l.length + 2) + 1) 0 out (by omega) (by omega) ho, w64 _ (by omega) (by omega)]
    rw [linked_l1 hn hl hr d k (i + 1) _ (by omega) (by omega) (by rw [stepL_length]; exact ho)]
    rfl
theorem linked_l0 {n : Int} {l : List Rn} (hn : n ≤ 1000) : ∀ (d k : Nat) (i : Int), 0 ≤ i → i + d = n → spec_l11Linked.l0 (k + d + 1) n l ((List.range i.toNat).map (fun i : Nat => (i : Int))) i = spec_l11Linked.l1 k n l (Gr.idx n) 0
  | 0, k, i, h0, h1 => by
    show spec_l11Linked.l0 (k + 1) n l _ i = _
    simp only [spec_l11Linked.l0]
    rw [if_neg (by omega), show i = n by omega]
    rfl
  | d + 1, k, i, h0, h1 => by
    obtain ⟨m, hm⟩ : ∃ m, m = k + d + 1 := ⟨_, rfl⟩
    rw [show k + (d + 1) + 1 = m + 1 by omega]
    simp only [spec_l11Linked.l0]
    rw [hm]
    rw [if_pos (by omega), if_pos (by simp; omega), w64 _ (by omega) (by omega)]
    have := linked_l0 (l := l) hn d k (i + 1) (by omega) (by omega)
    rw [show (i + 1).toNat = i.toNat + 1 by omega, List.range_succ, List.map_append, List.map_singleton, show ((i.toNat : Nat) : Int) = i by omega] at this
    exact this
theorem l11Linked_eq {n : Int} {l : List Rn} (h2 : 0 ≤ n) (h6 : n ≤ 6) (hl : l.length ≤ 1000) (hr : ∀ r ∈ l, okRun n r = true) (k : Nat) (hk : 8 * l.length + 40 ≤ k) : spec_l11Linked.f k n l = some (Gr.labs n (es l)) := by
  unfold spec_l11Linked.f
  have hb : n.toNat * (l.length + 2) ≤ 6 * (l.length + 2) := Nat.mul_le_mul_right _ (by omega)
  obtain ⟨k, rfl⟩ : ∃ m, k = (m + n.toNat * (l.length + 2) + 1) + n.toNat + 1 := ⟨k - (n.toNat * (l.length + 2) + 1 + n.toNat + 1), by omega⟩
  have a := linked_l0 (n := n) (l := l) (by omega) n.toNat (k + n.toNat * (l.length + 2) + 1) 0 (by omega) (by omega)
  rw [show (0 : Int).toNat = 0 from rfl] at a
  rw [show (([] : List Int)) = (List.range 0).map (fun i : Nat => (i : Int)) from rfl, a, linked_l1 (n := n) (l := l) (by omega) (by omega) hr n.toNat k 0 (Gr.idx n) (by omega) (by omega) (by unfold Gr.idx; simp; omega), Gr.rounds_idx (ok_ends hr)]
def linked (n : Int) (l : List Rn) : List Int := if valid n l = true then Gr.labs n (es l) else []
theorem linked_length (n : Int) (l : List Rn) : (linked n l).length ≤ 6 := by
  unfold linked
  split
  · rename_i h
    have := valid_iff.mp h
    rw [Gr.labs_length]; omega
  · simp
theorem sNetLinked_eq (n : Int) (l : List Rn) (hl : l.length ≤ 1000000000) (k : Nat) (hk : 2 * l.length + 200 ≤ k) : spec_NetLinked.f k n l = some (linked n l) := by
  unfold spec_NetLinked.f linked
  rw [sNetValid_eq n l hl k (by omega), Option.bind_some]
  by_cases hv : valid n l = true
  · have v := valid_iff.mp hv
    rw [if_pos hv, if_pos hv, l11Linked_eq (by omega) v.2.1 (by omega) v.2.2.2 k (by omega)]; rfl
  · rw [if_neg hv, if_neg hv]
def netWhole (n : Int) (l : List Rn) : Bool := valid n l && Gr.wholeB n (es l)
theorem labs_zero (n : Int) (es : List Gr.E) : (Gr.labs n es).all (fun x => decide (x = 0)) = Gr.wholeB n es := by
  unfold Gr.labs Gr.wholeB
  rw [List.all_map]
  rfl
theorem iWhole_l0 (L : List Int) (hL : L.length ≤ 1000000000) : ∀ (k : Nat) (i : Int), 0 ≤ i → i ≤ L.length → L.length < k + i → impl_NetWhole.l0 k L (L.length : Int) i = some ((L.drop i.toNat).all (fun x => decide (x = 0)))
  | 0, i, _, h1, h2 => by omega
  | k + 1, i, h0, h1, h2 => by
    simp only [impl_NetWhole.l0]
    by_cases c : i < (L.length : Int)
    · rw [if_pos c, if_pos h0, if_pos c, drop_int h0 c, List.all_cons]
      by_cases d : rd L i = 0
      · rw [if_pos d, w64 _ (by omega) (by omega), iWhole_l0 L hL k (i + 1) (by omega) (by omega) (by omega), decide_eq_true d]; rfl
      · rw [if_neg d, decide_eq_false d]; rfl
    · rw [if_neg c, drop_end (by omega)]; rfl
theorem sWhole_l0 (L : List Int) (hL : L.length ≤ 1000000000) : ∀ (k : Nat) (i : Int), 0 ≤ i → i ≤ L.length → L.length < k + i → spec_NetWhole.l0 k L i = some ((L.drop i.toNat).all (fun x => decide (x = 0)) && decide ((L.length : Int) > 0))
  | 0, i, _, h1, h2 => by omega
  | k + 1, i, h0, h1, h2 => by
    simp only [spec_NetWhole.l0]
    by_cases c : i < (L.length : Int)
    · rw [if_pos c, if_pos h0, drop_int h0 c, List.all_cons]
      by_cases d : rd L i = 0
      · rw [if_pos d, w64 _ (by omega) (by omega), sWhole_l0 L hL k (i + 1) (by omega) (by omega) (by omega), decide_eq_true d]; rfl
      · rw [if_neg d, decide_eq_false d]; rfl
    · rw [if_neg c, drop_end (by omega)]; rfl
theorem iNetWhole_eq (n : Int) (l : List Rn) (hl : l.length ≤ 1000000000) (k : Nat) (hk : 2 * l.length + 200 ≤ k) : impl_NetWhole.f k n l = some (netWhole n l) := by
  unfold impl_NetWhole.f netWhole
  rw [iNetValid_eq n l hl k (by omega), Option.bind_some]
  by_cases hv : valid n l = true
  · have v := valid_iff.mp hv
    rw [if_pos hv, hv, leastLinked_eq v.1 v.2.1 (by omega) v.2.2.2, Option.bind_some, iWhole_l0 _ (by rw [Gr.labs_length]; omega) k 0 (by omega) (by omega) (by rw [Gr.labs_length]; omega)]
    rw [show (0 : Int).toNat = 0 from rfl, List.drop_zero, labs_zero]; rfl
  · rw [if_neg hv]
    have : valid n l = false := by simpa using hv
    simp [this]
theorem sNetWhole_eq (n : Int) (l : List Rn) (hl : l.length ≤ 1000000000) (k : Nat) (hk : 2 * l.length + 200 ≤ k) : spec_NetWhole.f k n l = some (netWhole n l) := by
  unfold spec_NetWhole.f netWhole
  have hll := linked_length n l
  rw [sNetLinked_eq n l hl k hk, Option.bind_some, sWhole_l0 _ (by omega) k 0 (by omega) (by omega) (by omega)]
  rw [show (0 : Int).toNat = 0 from rfl, List.drop_zero]
  unfold linked
  by_cases hv : valid n l = true
  · have v := valid_iff.mp hv
    rw [if_pos hv, hv, labs_zero, Gr.labs_length, decide_eq_true (by omega), Bool.and_true]; rfl
  · rw [if_neg hv]
    have : valid n l = false := by simpa using hv
    simp [this]
def pick (l : List Rn) (t : List Int) : List Rn := t.map (fun i => rd_T36 l i)
theorem es_pick (l : List Rn) (t : List Int) : es (pick l t) = Gr.pk (es l) t := by
  rw [es_eq]
  unfold pick Gr.pk
  rw [List.map_map]
  apply List.map_congr_left
  intro k _
  rw [es_ed, rd_nat]
  rfl
theorem pick_length (l : List Rn) (t : List Int) : (pick l t).length = t.length := by unfold pick; simp
theorem pick_ok {n : Int} {l : List Rn} {t : List Int} (hr : ∀ r ∈ l, okRun n r = true) (ht : ∀ x ∈ t, 0 ≤ x ∧ x < l.length) : ∀ r ∈ pick l t, okRun n r = true := by
  intro r hm
  unfold pick at hm
  obtain ⟨x, hx, rfl⟩ := List.mem_map.mp hm
  exact hr _ (rdR_mem (ht x hx).1 (ht x hx).2)
theorem pick_valid {n : Int} {l : List Rn} {t : List Int} (hv : valid n l = true) (ht : ∀ x ∈ t, 0 ≤ x ∧ x < l.length) (hl : t.length ≤ 12) : valid n (pick l t) = true := by
  have v := valid_iff.mp hv
  exact valid_iff.mpr ⟨v.1, v.2.1, by rw [pick_length]; exact hl, pick_ok v.2.2.2 ht⟩
theorem pick_step {l : List Rn} {t : List Int} {i : Int} (h0 : 0 ≤ i) (h1 : i < t.length) (x : List Rn) : (x ++ [rd_T36 l (rd t i)]) ++ pick l (t.drop (i + 1).toNat) = x ++ pick l (t.drop i.toNat) := by
  rw [drop_int h0 h1]
  unfold pick
  simp
theorem int_mem {t : List Int} {i : Int} (h0 : 0 ≤ i) (h1 : i < t.length) : rd t i ∈ t := by
  unfold rd
  rw [List.getD_eq_getElem?_getD, List.getElem?_eq_getElem (by omega), Option.getD_some]
  exact List.getElem_mem _
theorem iPick_l0 (l : List Rn) (t : List Int) (ht : ∀ x ∈ t, 0 ≤ x ∧ x < l.length) (hb : t.length ≤ 1000000000) : ∀ (k : Nat) (i : Int) (x : List Rn), 0 ≤ i → i ≤ t.length → t.length < k + i → (x.length : Int) = i → impl_pick.l0 k l x t (t.length : Int) i = some (x ++ pick l (t.drop i.toNat))
  | 0, i, x, _, h1, h2, _ => by omega
  | k + 1, i, x, h0, h1, h2, h3 => by
    simp only [impl_pick.l0]
    by_cases c : i < (t.length : Int)
    · have := ht _ (int_mem h0 c)
      rw [if_pos c, if_pos h0, if_pos c, if_pos this.1, if_pos this.2, if_pos (by omega), w64 _ (by omega) (by omega)]
      show impl_pick.l0 k l (x ++ [rd_T36 l (rd t i)]) t (t.length : Int) (i + 1) = _
      rw [iPick_l0 l t ht hb k (i + 1) _ (by omega) (by omega) (by omega) (by simp; omega), pick_step h0 c]
    · rw [if_neg c, drop_end (by omega)]; simp [pick]
theorem sPick_l0 (l : List Rn) (t : List Int) (ht : ∀ x ∈ t, 0 ≤ x ∧ x < l.length) (hb : t.length ≤ 1000000000) : ∀ (k : Nat) (i : Int) (x : List Rn), 0 ≤ i → i ≤ t.length → t.length < k + i → (x.length : Int) = i → spec_l12Some.l0 k l t x i = some (x ++ pick l (t.drop i.toNat))
  | 0, i, x, _, h1, h2, _ => by omega
  | k + 1, i, x, h0, h1, h2, h3 => by
    simp only [spec_l12Some.l0]
    by_cases c : i < (t.length : Int)
    · have := ht _ (int_mem h0 c)
      rw [if_pos c, if_pos h0, if_pos this.1, if_pos this.2, if_pos (by omega), w64 _ (by omega) (by omega)]
      show spec_l12Some.l0 k l t (x ++ [rd_T36 l (rd t i)]) (i + 1) = _
      rw [sPick_l0 l t ht hb k (i + 1) _ (by omega) (by omega) (by omega) (by simp; omega), pick_step h0 c]
    · rw [if_neg c, drop_end (by omega)]; simp [pick]
theorem iPick_eq {l : List Rn} {t : List Int} (ht : ∀ x ∈ t, 0 ≤ x ∧ x < l.length) (hb : t.length ≤ 1000000000) (k : Nat) (hk : t.length + 2 ≤ k) : impl_pick.f k l t = some (pick l t) := by
  unfold impl_pick.f
  rw [if_pos (by omega), if_pos (by omega), iPick_l0 l t ht hb k 0 [] (by omega) (by omega) (by omega) rfl]
  simp
theorem sPick_eq {l : List Rn} {t : List Int} (ht : ∀ x ∈ t, 0 ≤ x ∧ x < l.length) (hb : t.length ≤ 1000000000) (k : Nat) (hk : t.length + 2 ≤ k) : spec_l12Some.f k l t = some (pick l t) := by
  unfold spec_l12Some.f
  rw [sPick_l0 l t ht hb k 0 [] (by omega) (by omega) (by omega) rfl]
  simp
def treeIs (n : Int) (l : List Rn) (t : List Int) : Bool := valid n l && decide ((t.length : Int) = n - 1) && Gr.asc (-1) l.length t && Gr.wholeB n (Gr.pk (es l) t)
theorem asc_in {N : Nat} {t : List Int} (h : Gr.asc (-1) N t = true) : ∀ x ∈ t, 0 ≤ x ∧ x < N := fun x hx => by
  have := Gr.asc_mem h x hx; omega
theorem sTree_l0 {n : Int} {l : List Rn} (hv : valid n l = true) (t : List Int) (hb : (t.length : Int) = n - 1) : ∀ (k : Nat) (i last : Int), 0 ≤ i → i ≤ t.length → 300 < k + i → -1 ≤ last → last ≤ l.length → (Gr.asc last l.length (t.drop i.toNat) = true → Gr.asc (-1) l.length t = true) → spec_TreeIs.l0 k n l t last i = some (Gr.asc last l.length (t.drop i.toNat) && Gr.wholeB n (Gr.pk (es l) t))
  | 0, i, last, h0, h1, h2, h3, h4, hw => by have := valid_iff.mp hv; omega
  | k + 1, i, last, h0, h1, h2, h3, h4, hw => by
    have v := valid_iff.mp hv
    simp only [spec_TreeIs.l0]
    by_cases c : i < (t.length : Int)
    · rw [if_pos c, if_pos h0, l6In_eq, Option.bind_some, w64 (last + 1) (by omega) (by omega), w64 _ (by omega) (by omega), w64 (i + 1) (by omega) (by omega)]
      rw [drop_int h0 c] at hw ⊢
      simp only [Gr.asc] at hw ⊢
      by_cases d : last < rd t i ∧ rd t i < (l.length : Int)
      · rw [if_pos (by simp; omega), decide_eq_true d.1, decide_eq_true d.2, Bool.true_and, Bool.true_and]
        rw [decide_eq_true d.1, decide_eq_true d.2, Bool.true_and, Bool.true_and] at hw
        exact sTree_l0 hv t hb k (i + 1) _ (by omega) (by omega) (by omega) (by omega) (by omega) hw
      · rw [if_neg (by simp; omega)]
        congr 1; symm
        rw [Bool.eq_false_iff]
        intro z
        simp only [Bool.and_eq_true, decide_eq_true_eq] at z
        exact d ⟨z.1.1.1, z.1.1.2⟩
    · rw [drop_end (by omega)] at hw ⊢
      have hin := asc_in (hw rfl)
      rw [if_neg c, sPick_eq hin (by omega) k (by omega), Option.bind_some, sNetWhole_eq _ _ (by rw [pick_length]; omega) k (by rw [pick_length]; omega)]
      unfold netWhole
      rw [pick_valid hv hin (by omega), es_pick]
      rfl
theorem sTreeIs_eq (n : Int) (l : List Rn) (t : List Int) (hl : l.length ≤ 1000000000) (hb : t.length ≤ 1000000000) (k : Nat) (hk : 2 * l.length + 1000 ≤ k) : spec_TreeIs.f k n l t = some (treeIs n l t) := by
  unfold spec_TreeIs.f treeIs
  rw [sNetValid_eq n l hl k (by omega), Option.bind_some]
  obtain ⟨k, rfl⟩ : ∃ m, k = m + 1 := ⟨k - 1, by omega⟩
  simp only [spec_TreeIs.j0]
  by_cases hv : valid n l = true
  · have v := valid_iff.mp hv
    rw [if_pos hv, hv, w64 _ (by omega) (by omega)]
    by_cases hn : (t.length : Int) = n - 1
    · rw [if_neg (by simp [hn]), sTree_l0 hv t hn k 0 (-1) (by omega) (by omega) (by omega) (by omega) (by omega) (fun h => by simpa using h), decide_eq_true hn]
      simp
    · rw [if_pos (by simpa using hn), decide_eq_false hn]
      simp
  · rw [if_neg hv]
    have : valid n l = false := by simpa using hv
    simp [this]
def treeMany (n : Int) (l : List Rn) : Int := if valid n l = true then ((Gr.trees n (es l)).length : Int) else -1
def wt (l : List Rn) (k : Int) : Int := (rd_T36 l k).f3
def treeWeight (n : Int) (l : List Rn) : Int := if valid n l = true then Gr.wsum (wt l) (Gr.trees n (es l)) else -1
theorem trees_in {n : Int} {l : List Rn} {t : List Int} (h : t ∈ Gr.trees n (es l)) : t.length = (n - 1).toNat ∧ ∀ k ∈ t, 0 ≤ k ∧ k < l.length := by
  have s := Gr.trees_spec h
  refine ⟨s.1, ?_⟩
  have := s.2.1
  rw [es_length] at this
  exact asc_in this
theorem weight_bound {n : Int} {l : List Rn} (hv : valid n l = true) : treeMany n l ≤ treeWeight n l ∧ treeWeight n l ≤ treeMany n l * 9 ^ (n - 1).toNat := by
  have v := valid_iff.mp hv
  unfold treeMany treeWeight
  rw [if_pos hv, if_pos hv]
  refine Gr.wsum_bound (B := 9) (by omega) (fun t ht => ⟨(trees_in ht).1, fun k hk => ?_⟩)
  have r := (trees_in ht).2 k hk
  exact (okRun_iff.mp (v.2.2.2 _ (rdR_mem r.1 r.2))).2.2.2.2
theorem treeMany_bound (n : Int) (l : List Rn) : -1 ≤ treeMany n l ∧ treeMany n l ≤ 4096 := by
  unfold treeMany
  by_cases hv : valid n l = true
  · rw [if_pos hv]
    have c := Gr.trees_count n (es l)
    rw [es_length] at c
    have v := valid_iff.mp hv
    have : (2 : Nat) ^ l.length ≤ 2 ^ 12 := Nat.pow_le_pow_right (by omega) v.2.2.1
    omega
  · rw [if_neg hv]; omega
def w1 (r : Rn) : Rn := ⟨r.f0, r.f1, r.f2, 1⟩
def w2 (r : Rn) : Rn := ⟨r.f0, r.f1, r.f2, 2 * r.f3⟩
theorem rd_mapR (f : Rn → Rn) {l : List Rn} {i : Int} (h0 : 0 ≤ i) (h1 : i < l.length) : rd_T36 (l.map f) i = f (rd_T36 l i) := by
  unfold rd_T36
  rw [List.getD_eq_getElem?_getD, List.getD_eq_getElem?_getD, List.getElem?_map, List.getElem?_eq_getElem (by omega)]
  rfl
theorem es_w1 (l : List Rn) : es (l.map w1) = es l := by
  rw [es_eq, es_eq, List.map_map]; rfl
theorem es_w2 (l : List Rn) : es (l.map w2) = es l := by
  rw [es_eq, es_eq, List.map_map]; rfl
theorem valid_w1 {n : Int} {l : List Rn} (hv : valid n l = true) : valid n (l.map w1) = true := by
  have v := valid_iff.mp hv
  refine valid_iff.mpr ⟨v.1, v.2.1, by rw [List.length_map]; exact v.2.2.1, fun r hr => ?_⟩
  obtain ⟨x, hx, rfl⟩ := List.mem_map.mp hr
  have ok := okRun_iff.mp (v.2.2.2 x hx)
  exact okRun_iff.mpr ⟨ok.1, ok.2.1, ok.2.2.1, ok.2.2.2.1, by show (1 : Int) ≤ 1 ∧ (1 : Int) ≤ 9; omega⟩
theorem valid_w2 {n : Int} {l : List Rn} (hv : valid n l = true) (h9 : ∀ r ∈ l, 2 * r.f3 ≤ 9) : valid n (l.map w2) = true := by
  have v := valid_iff.mp hv
  refine valid_iff.mpr ⟨v.1, v.2.1, by rw [List.length_map]; exact v.2.2.1, fun r hr => ?_⟩
  obtain ⟨x, hx, rfl⟩ := List.mem_map.mp hr
  have ok := okRun_iff.mp (v.2.2.2 x hx)
  have := h9 x hx
  exact okRun_iff.mpr ⟨ok.1, ok.2.1, ok.2.2.1, ok.2.2.2.1, by show (1 : Int) ≤ 2 * x.f3 ∧ 2 * x.f3 ≤ 9; omega⟩
theorem weight_one {n : Int} {l : List Rn} (hv : valid n l = true) : treeWeight n (l.map w1) = treeMany n l := by
  unfold treeMany treeWeight
  rw [if_pos hv, if_pos (valid_w1 hv), es_w1]
  refine Gr.wsum_one (fun t ht k hk => ?_)
  have r := (trees_in ht).2 k hk
  unfold wt
  rw [rd_mapR _ r.1 r.2]; rfl
theorem weight_two {n : Int} {l : List Rn} (hv : valid n l = true) (h9 : ∀ r ∈ l, 2 * r.f3 ≤ 9) : treeWeight n (l.map w2) = 2 ^ (n - 1).toNat * treeWeight n l := by
  unfold treeWeight
  rw [if_pos hv, if_pos (valid_w2 hv h9), es_w2]
  refine Gr.wsum_two (fun t ht => ⟨(trees_in ht).1, fun k hk => ?_⟩)
  have r := (trees_in ht).2 k hk
  unfold wt
  rw [rd_mapR _ r.1 r.2]; rfl
theorem tw_eq {n : Int} {l : List Rn} (hv : valid n l = true) {t : List Int} (ht : ∀ x ∈ t, 0 ≤ x ∧ x < l.length) (hb : t.length ≤ 12) (k : Nat) (hk : 1000 ≤ k) : tw k n l t = some (Gr.wholeB n (Gr.pk (es l) t)) := by
  have v := valid_iff.mp hv
  unfold tw
  rw [iPick_eq ht (by omega) k (by omega), Option.bind_some, iNetWhole_eq _ _ (by rw [pick_length]; omega) k (by rw [pick_length]; omega)]
  unfold netWhole
  rw [pick_valid hv ht (by omega), es_pick]
  rfl
theorem keeps_eq {n : Int} {l : List Rn} {k : Nat} {p : List Int → Bool} : ∀ {xs : List (List Int)}, (∀ x ∈ xs, tw k n l x = some (p x)) → keeps k n l xs = some (xs.filter p)
  | [], _ => rfl
  | x :: xs, h => by
    unfold keeps
    rw [h x (by simp), Option.bind_some, keeps_eq (fun y hy => h y (List.mem_cons_of_mem _ hy)), Option.bind_some, List.filter_cons]
theorem subs_in {n : Int} {l : List Rn} (hv : valid n l = true) {t : List Int} (h : t ∈ subs n l.length) : (∀ x ∈ t, 0 ≤ x ∧ x < (l.length : Int)) ∧ t.length ≤ 12 ∧ (t.length : Int) = n - 1 ∧ Gr.asc (-1) l.length t = true := by
  have v := valid_iff.mp hv
  have i := sub_in h
  refine ⟨i.2, by omega, by omega, Gr.sub_asc h (by omega) (by omega)⟩
theorem trees_eq {n : Int} {l : List Rn} : Gr.trees n (es l) = (subs n l.length).filter (fun t => Gr.wholeB n (Gr.pk (es l) t)) := by
  unfold Gr.trees subs
  rw [es_length]
theorem keeps_trees {n : Int} {l : List Rn} (hv : valid n l = true) (k : Nat) (hk : 1000 ≤ k) : keeps k n l (subs n l.length) = some (Gr.trees n (es l)) := by
  rw [trees_eq]
  exact keeps_eq (fun x hx => tw_eq hv (subs_in hv hx).1 (subs_in hv hx).2.1 k hk)
theorem iTreeMany_eq (n : Int) (l : List Rn) (hl : l.length ≤ 1000000000) (k : Nat) (hk : l.length + 2000 ≤ k) : impl_TreeMany.f k n l = some (treeMany n l) := by
  unfold impl_TreeMany.f treeMany
  rw [iNetValid_eq n l hl k (by omega), Option.bind_some]
  by_cases hv : valid n l = true
  · have v := valid_iff.mp hv
    rw [if_pos hv, if_pos hv, if_pos ⟨by omega, by omega, by omega⟩, keeps_trees hv k (by omega)]
    rfl
  · rw [if_neg hv, if_neg hv]
theorem pow9 : ∀ (m : Nat), (9 : Int) ^ m = ((9 ^ m : Nat) : Int)
  | 0 => rfl
  | m + 1 => by rw [Int.pow_succ, Nat.pow_succ, pow9 m]; omega
theorem pow9_mono {a b : Nat} (h : a ≤ b) : (9 : Int) ^ a ≤ 9 ^ b := by
  have := Nat.pow_le_pow_right (n := 9) (by omega) h
  rw [pow9, pow9]
  omega
theorem prod_eq {l : List Rn} : ∀ (t : List Int) (p : Int), (∀ x ∈ t, 1 ≤ wt l x ∧ wt l x ≤ 9) → 0 ≤ p → p * 9 ^ t.length ≤ 1000000000000 → Hand.prod l p t = p * Gr.prod (wt l) t
  | [], p, _, _, _ => by
    show p = p * 1
    omega
  | x :: t, p, h, h0, h1 => by
    have hx := h x (by simp)
    have ht : ∀ y ∈ t, 1 ≤ wt l y ∧ wt l y ≤ 9 := fun y hy => h y (List.mem_cons_of_mem _ hy)
    have e9 : (1 : Int) ≤ 9 ^ t.length := pow9_mono (a := 0) (by omega)
    have a0 : 0 ≤ p * wt l x := Int.mul_nonneg h0 (by omega)
    have a1 : p * wt l x ≤ p * 9 := Int.mul_le_mul_of_nonneg_left hx.2 h0
    have a2 : p * wt l x * 9 ^ t.length ≤ p * 9 * 9 ^ t.length := Int.mul_le_mul_of_nonneg_right a1 (by omega)
    have a3 : p * 9 * 9 ^ t.length = p * 9 ^ (x :: t).length := by rw [List.length_cons, Int.pow_succ, Int.mul_assoc, Int.mul_comm 9 (9 ^ t.length)]
    have a4 : p * wt l x * 9 ^ t.length ≤ 1000000000000 := by omega
    have a5 : p * wt l x ≤ p * wt l x * 9 ^ t.length := by
      have := Int.mul_le_mul_of_nonneg_left e9 a0
      omega
    show Hand.prod l (wrap64 (p * wt l x)) t = _
    rw [w64 _ (by omega) (by omega), prod_eq t _ ht a0 a4, Gr.prod_cons, Int.mul_assoc]
theorem wsum_eq {l : List Rn} : ∀ (ts : List (List Int)) (s : Int), (∀ t ∈ ts, t.length ≤ 5 ∧ ∀ x ∈ t, 1 ≤ wt l x ∧ wt l x ≤ 9) → 0 ≤ s → s + ts.length * 59049 ≤ 1000000000000 → Hand.wsum l s ts = s + Gr.wsum (wt l) ts
  | [], s, _, _, _ => by
    show s = s + 0
    omega
  | t :: ts, s, h, h0, h1 => by
    have ht := h t (by simp)
    have p9 : (9 : Int) ^ t.length ≤ 9 ^ 5 := pow9_mono ht.1
    have pb := Gr.prod_bound (W := wt l) (B := 9) (by omega) ht.2
    have e5 : (9 : Int) ^ 5 = 59049 := by decide
    rw [List.length_cons] at h1
    show Hand.wsum l (wrap64 (s + Hand.prod l 1 t)) ts = _
    rw [prod_eq t 1 ht.2 (by omega) (by omega), Int.one_mul, w64 _ (by omega) (by omega), wsum_eq ts _ (fun y hy => h y (List.mem_cons_of_mem _ hy)) (by omega) (by omega), Gr.wsum_cons]
    omega
theorem wsum_trees {n : Int} {l : List Rn} (hv : valid n l = true) : Hand.wsum l 0 (Gr.trees n (es l)) = Gr.wsum (wt l) (Gr.trees n (es l)) := by
  have v := valid_iff.mp hv
  have c := Gr.trees_count n (es l)
  rw [es_length] at c
  have : (2 : Nat) ^ l.length ≤ 2 ^ 12 := Nat.pow_le_pow_right (by omega) v.2.2.1
  rw [wsum_eq _ 0 (fun t ht => ⟨by have := (trees_in ht).1; omega, fun x hx => ?_⟩) (by omega) (by omega)]
  · omega
  · have r := (trees_in ht).2 x hx
    exact (okRun_iff.mp (v.2.2.2 _ (rdR_mem r.1 r.2))).2.2.2.2
theorem iTreeWeight_eq (n : Int) (l : List Rn) (hl : l.length ≤ 1000000000) (k : Nat) (hk : l.length + 2000 ≤ k) : impl_TreeWeight.f k n l = some (treeWeight n l) := by
  unfold impl_TreeWeight.f treeWeight
  rw [iNetValid_eq n l hl k (by omega), Option.bind_some]
  by_cases hv : valid n l = true
  · have v := valid_iff.mp hv
    rw [if_pos hv, if_pos hv, if_pos ⟨by omega, by omega, by omega⟩, keeps_trees hv k (by omega), Option.bind_some, wsum_trees hv]
  · rw [if_neg hv, if_neg hv]
/-- the trees of a net that begin with b and go on from the run i -/
def begun (n : Int) (l : List Rn) (b : List Int) (s : Nat) (i : Int) (d : Nat) : List (List Int) := ((Gr.sub s (Gr.upto i d)).map (b ++ ·)).filter (treeIs n l)
theorem begun_length (n : Int) (l : List Rn) (b : List Int) (s : Nat) (i : Int) (d : Nat) (hd : d ≤ 12) : (begun n l b s i d).length ≤ 4096 := by
  unfold begun
  refine Nat.le_trans (List.length_filter_le _ _) ?_
  rw [List.length_map]
  refine Nat.le_trans (Gr.sub_count _ _) ?_
  rw [Gr.upto_length]
  exact Nat.pow_le_pow_right (n := 2) (by omega) hd
theorem begun_next (n : Int) (l : List Rn) (b : List Int) (s : Nat) (i : Int) (d : Nat) : begun n l b (s + 1) i (d + 1) = begun n l (b ++ [i]) s (i + 1) d ++ begun n l b (s + 1) (i + 1) d := by
  unfold begun
  rw [show Gr.upto i (d + 1) = i :: Gr.upto (i + 1) d from rfl, show Gr.sub (s + 1) (i :: Gr.upto (i + 1) d) = (Gr.sub s (Gr.upto (i + 1) d)).map (i :: ·) ++ Gr.sub (s + 1) (Gr.upto (i + 1) d) from rfl, List.map_append, List.filter_append, List.map_map]
  congr 3
  funext x
  simp
theorem all_f {n : Int} {l : List Rn} (hv : valid n l = true) : ∀ (s : Nat) (b : List Int) (i : Int) (d k : Nat), (b.length : Int) + s = n - 1 → 0 ≤ i → i + d = l.length → 2000 + 100 * s ≤ k → spec_l12All.f k n l b i = some (begun n l b s i d) := by
  have v := valid_iff.mp hv
  intro s
  induction s with
  | zero =>
    intro b i d k hb h0 h1 hk
    obtain ⟨k, rfl⟩ : ∃ m, k = m + 1 := ⟨k - 1, by omega⟩
    have e : begun n l b 0 i d = [b].filter (treeIs n l) := by
      unfold begun
      cases Gr.upto i d <;> simp [Gr.sub]
    simp only [spec_l12All.f]
    rw [w64 _ (by omega) (by omega), if_pos (by omega), sTreeIs_eq _ _ _ (by omega) (by omega) k (by omega), Option.bind_some, e]
    by_cases ht : treeIs n l b = true
    · rw [if_pos ht, Option.bind_some, if_pos (by simp; omega), List.filter_cons, if_pos ht]
      rfl
    · rw [if_neg ht, List.filter_cons, if_neg ht]
      rfl
  | succ s ih =>
    have loop : ∀ (d k : Nat) (i : Int) (b : List Int) (x : List (List Int)), (b.length : Int) + s + 1 = n - 1 → 0 ≤ i → i + d = l.length → x.length + 4096 * d ≤ 100000 → 2000 + 100 * s + d + 1 ≤ k → spec_l12All.l0 k n l b x i = some (x ++ begun n l b (s + 1) i d) := by
      intro d
      induction d with
      | zero =>
        intro k i b x hb h0 h1 hx hk
        obtain ⟨k, rfl⟩ : ∃ m, k = m + 1 := ⟨k - 1, by omega⟩
        simp only [spec_l12All.l0]
        rw [if_neg (by omega)]
        unfold begun
        simp [Gr.upto, Gr.sub]
      | succ d ihd =>
        intro k i b x hb h0 h1 hx hk
        obtain ⟨k, rfl⟩ : ∃ m, k = m + 1 := ⟨k - 1, by omega⟩
        have bl := begun_length n l (b ++ [i]) s (i + 1) d (by omega)
        simp only [spec_l12All.l0, List.nil_append, Option.bind_some]
        rw [if_pos (by omega), if_pos (by simp; omega), if_pos (by omega), w64 _ (by omega) (by omega), ih (b ++ [i]) (i + 1) d k (by simp; omega) (by omega) (by omega) (by omega), Option.bind_some, if_pos (by omega),
          ihd k (i + 1) b _ hb (by omega) (by omega) (by rw [List.length_append]; omega) (by omega), begun_next, List.append_assoc]
    intro b i d k hb h0 h1 hk
    obtain ⟨k, rfl⟩ : ∃ m, k = m + 1 := ⟨k - 1, by omega⟩
    simp only [spec_l12All.f]
    rw [w64 _ (by omega) (by omega), if_neg (by omega), loop d k i b [] (by omega) h0 h1 (by simp; omega) (by omega)]
    rfl
theorem all_trees {n : Int} {l : List Rn} (hv : valid n l = true) (k : Nat) (hk : 4000 ≤ k) : spec_l12All.f k n l [] 0 = some (Gr.trees n (es l)) := by
  have v := valid_iff.mp hv
  rw [all_f hv (n - 1).toNat [] 0 l.length k (by simp; omega) (by omega) (by omega) (by omega), trees_eq]
  unfold begun
  congr 1
  rw [show (fun x : List Int => ([] : List Int) ++ x) = id from rfl, List.map_id]
  refine List.filter_congr (fun t ht => ?_)
  have i := subs_in hv ht
  unfold treeIs
  rw [hv, decide_eq_true i.2.2.1, i.2.2.2]
  rfl
theorem drop_list {ts : List (List Int)} {i : Int} (h0 : 0 ≤ i) (h1 : i < ts.length) : ts.drop i.toNat = rd_L4 ts i :: ts.drop (i + 1).toNat := by
  have e : (i + 1).toNat = i.toNat + 1 := by omega
  have hi : i.toNat < ts.length := by omega
  rw [e, List.drop_eq_getElem_cons hi]
  unfold rd_L4
  rw [List.getD_eq_getElem?_getD, List.getElem?_eq_getElem hi]
  rfl
theorem sWeight_l1 {l : List Rn} {ts : List (List Int)} (C : Nat) {s j : Int} (j0 : 0 ≤ j) (j1 : j < ts.length) (ht : ∀ x ∈ rd_L4 ts j, 0 ≤ x ∧ x < l.length) (hb : (rd_L4 ts j).length ≤ 5) (hj : j ≤ 1000000)
    {r : Int} (H : ∀ k, C ≤ k → spec_TreeWeight.l0 k l (wrap64 (s + Hand.prod l 1 (rd_L4 ts j))) ts (j + 1) = some r) : ∀ (d k : Nat) (p i : Int), 0 ≤ i → i + d = (rd_L4 ts j).length → C + d + 1 ≤ k → Hand.prod l p ((rd_L4 ts j).drop i.toNat) = Hand.prod l 1 (rd_L4 ts j) → spec_TreeWeight.l1 k l s ts j p i = some r := by
  intro d
  induction d with
  | zero =>
    intro k p i h0 h1 hk hp
    obtain ⟨k, rfl⟩ : ∃ m, k = m + 1 := ⟨k - 1, by omega⟩
    rw [drop_end (by omega)] at hp
    simp only [spec_TreeWeight.l1]
    rw [if_pos j0, if_pos j1, if_neg (by omega), w64 (j + 1) (by omega) (by omega)]
    have := H k (by omega)
    rw [← hp] at this
    exact this
  | succ d ih =>
    intro k p i h0 h1 hk hp
    obtain ⟨k, rfl⟩ : ∃ m, k = m + 1 := ⟨k - 1, by omega⟩
    have hx := ht _ (int_mem h0 (by omega))
    rw [drop_int h0 (by omega)] at hp
    simp only [spec_TreeWeight.l1]
    rw [if_pos j0, if_pos j1, if_pos (by omega), if_pos h0, if_pos hx.1, if_pos hx.2, w64 (i + 1) (by omega) (by omega)]
    exact ih k _ (i + 1) (by omega) (by omega) (by omega) hp
theorem sWeight_l0 {l : List Rn} {ts : List (List Int)} (ht : ∀ t ∈ ts, t.length ≤ 5 ∧ ∀ x ∈ t, 0 ≤ x ∧ x < (l.length : Int)) (hb : ts.length ≤ 4096) : ∀ (d k : Nat) (s j : Int), 0 ≤ j → j + d = ts.length → 10 * d + 10 ≤ k → spec_TreeWeight.l0 k l s ts j = some (Hand.wsum l s (ts.drop j.toNat)) := by
  intro d
  induction d with
  | zero =>
    intro k s j h0 h1 hk
    obtain ⟨k, rfl⟩ : ∃ m, k = m + 1 := ⟨k - 1, by omega⟩
    simp only [spec_TreeWeight.l0]
    rw [if_neg (by omega), drop_end (by omega)]
    rfl
  | succ d ih =>
    intro k s j h0 h1 hk
    obtain ⟨k, rfl⟩ : ∃ m, k = m + 1 := ⟨k - 1, by omega⟩
    have e := drop_list h0 (show j < ts.length by omega)
    have hm : rd_L4 ts j ∈ ts := List.mem_of_mem_drop (by rw [e]; simp)
    have h2 := ht _ hm
    simp only [spec_TreeWeight.l0]
    rw [if_pos (by omega), e]
    exact sWeight_l1 (10 * d + 10) h0 (by omega) h2.2 h2.1 (by omega) (fun k hk => ih k _ (j + 1) (by omega) (by omega) hk) (rd_L4 ts j).length k 1 0 (by omega) (by omega) (by omega) rfl
theorem sTreeWeight_eq (n : Int) (l : List Rn) (hl : l.length ≤ 1000000000) (k : Nat) (hk : 2 * l.length + 50000 ≤ k) : spec_TreeWeight.f k n l = some (treeWeight n l) := by
  unfold spec_TreeWeight.f treeWeight
  rw [sNetValid_eq n l hl k (by omega), Option.bind_some]
  by_cases hv : valid n l = true
  · have v := valid_iff.mp hv
    have c := Gr.trees_count n (es l)
    rw [es_length] at c
    have c2 : (2 : Nat) ^ l.length ≤ 2 ^ 12 := Nat.pow_le_pow_right (by omega) v.2.2.1
    rw [if_pos hv, if_pos hv, all_trees hv k (by omega), Option.bind_some, sWeight_l0 (fun t ht => ⟨by have := (trees_in ht).1; omega, (trees_in ht).2⟩) (by omega) (Gr.trees n (es l)).length k 0 0 (by omega) (by omega) (by omega)]
    exact congrArg some (wsum_trees hv)
  · rw [if_neg hv, if_neg hv]
theorem tmod_pos (x n : Int) (h : 0 ≤ x) : Int.tmod x n = x % n := Int.tmod_eq_emod_of_nonneg h
theorem xor_small (a b : Int) (ha : 0 ≤ a) (ha2 : a < 1000000000000) (hb : 0 ≤ b) (hb2 : b < 1000000000000) : 0 ≤ bits .xor .i64 a b := by
  obtain ⟨x, rfl⟩ := Int.eq_ofNat_of_zero_le ha
  obtain ⟨y, rfl⟩ := Int.eq_ofNat_of_zero_le hb
  have hx : x < 2 ^ 62 := by omega
  have hy : y < 2 ^ 62 := by omega
  have h := Nat.xor_lt_two_pow hx hy
  simp only [bits, BitVec.ofInt_natCast, BitVec.toNat_xor, BitVec.toNat_ofNat]
  rw [Nat.mod_eq_of_lt (show x < 2 ^ (IntKind.bits .i64) by simp [IntKind.bits]; omega), Nat.mod_eq_of_lt (show y < 2 ^ (IntKind.bits .i64) by simp [IntKind.bits]; omega)]
  rw [IntKind.wrap_i64]
  omega
/-- A code: its bytes. -/
def Bytes (s : List Int) : Prop := ∀ x ∈ s, 0 ≤ x ∧ x ≤ 255
theorem Bytes.rdB {s : List Int} (h : Bytes s) (i : Int) : 0 ≤ rd s i ∧ rd s i ≤ 255 := by
  unfold rd
  rw [List.getD_eq_getElem?_getD]
  rcases hq : s[i.toNat]? with _ | x
  · simp
  · simp only [Option.getD_some]; exact h x (List.mem_of_getElem? hq)
theorem Bytes.of_wf {l : List Int} (h : ∀ x ∈ l, (Lit.int .u8 x).wf = true) : Bytes l := fun x hx => bounds_u8 (h x hx)
theorem Bytes.take {l : List Int} (h : Bytes l) (n : Nat) : Bytes (l.take n) := fun x hx => h x (List.mem_of_mem_take hx)
theorem open_eq (l : List Int) : ∃ s, spec_l6Open.f l = some (s, 0) ∧ s.length ≤ 2000 ∧ (Bytes l → Bytes s) := by
  unfold spec_l6Open.f
  by_cases h : (l.length : Int) > 2000
  · rw [if_pos h, if_pos (by omega)]
    exact ⟨_, rfl, by simp; omega, fun hb => hb.take _⟩
  · rw [if_neg h]
    exact ⟨_, rfl, by omega, fun hb => hb⟩
theorem pick_eq (s : List Int) (hs : Bytes s) (hl : s.length ≤ 2000) (p n : Int) (h0 : 0 ≤ p) (h1 : p ≤ 1000000) (hn : 1 ≤ n) (hn2 : n ≤ 1000000) :
    ∃ v, (∀ k, 1 ≤ k → spec_l6Rd_pick.f k s p n = some (v, p + 1)) ∧ 0 ≤ v ∧ v < n := by
  have fin : ∀ x : Int, 0 ≤ x → 0 ≤ Int.tmod x n ∧ Int.tmod x n < n := fun x hx => by
    rw [tmod_pos x n hx]
    exact ⟨Int.emod_nonneg x (by omega), Int.emod_lt_of_pos x (by omega)⟩
  by_cases hz : s.length = 0
  · refine ⟨0, fun k hk => ?_, by omega, by omega⟩
    obtain ⟨k, rfl⟩ : ∃ m, k = m + 1 := ⟨k - 1, by omega⟩
    unfold spec_l6Rd_pick.f
    rw [if_neg (by omega), show ((s.length : Int) == 0) = true by rw [beq_iff_eq]; omega]
    simp only [spec_l6Rd_pick.j0, if_true]
    rw [w64 (p + 1) (by omega) (by omega)]
  · have ez : ((s.length : Int) == 0) = false := by rw [beq_eq_false_iff_ne]; omega
    by_cases hlt : p < (s.length : Int)
    · have g := hs.rdB p
      refine ⟨Int.tmod (rd s p) n, fun k hk => ?_, fin _ g.1⟩
      obtain ⟨k, rfl⟩ : ∃ m, k = m + 1 := ⟨k - 1, by omega⟩
      unfold spec_l6Rd_pick.f
      rw [if_neg (by omega), ez]
      simp only [spec_l6Rd_pick.j0, Bool.false_eq_true, if_false]
      rw [w64 (p + 1) (by omega) (by omega)]
      have e : wrap64 (p + 1 - 1) = p := by rw [w64 (p + 1 - 1) (by omega) (by omega)]; omega
      rw [e, if_pos hlt, if_pos h0, if_neg (by omega), w64 (rd s p) (by omega) (by omega)]
    · have hL : (0 : Int) < (s.length : Int) := by omega
      have m1 := Int.emod_nonneg p (by omega : (s.length : Int) ≠ 0)
      have m2 := Int.emod_lt_of_pos p hL
      have m3 := Int.emod_nonneg (p * 7 + 3) (by omega : (s.length : Int) ≠ 0)
      have m4 := Int.emod_lt_of_pos (p * 7 + 3) hL
      have g1 := hs.rdB (p % (s.length : Int))
      have g2 := hs.rdB ((p * 7 + 3) % (s.length : Int))
      have d0 : 0 ≤ p / (s.length : Int) := Int.ediv_nonneg h0 (by omega)
      have d1 : p / (s.length : Int) ≤ p := Int.ediv_le_self _ h0
      have X0 : ∃ x, x = rd s (p % (s.length : Int)) * 131 + rd s ((p * 7 + 3) % (s.length : Int)) * 1117 + p * 29 + p / (s.length : Int) * 53 := ⟨_, rfl⟩
      obtain ⟨x, hx⟩ := X0
      have x0 : 0 ≤ x := by omega
      have x1 : x ≤ 1000000000 := by omega
      have y0 : 0 ≤ x / 64 := by omega
      have y1 : x / 64 ≤ 1000000000 := by omega
      have z0 := xor_small x (x / 64) x0 (by omega) y0 (by omega)
      refine ⟨Int.tmod (bits .xor .i64 x (x / 64)) n, fun k hk => ?_, fin _ z0⟩
      obtain ⟨k, rfl⟩ : ∃ m, k = m + 1 := ⟨k - 1, by omega⟩
      unfold spec_l6Rd_pick.f
      rw [if_neg (by omega), ez]
      simp only [spec_l6Rd_pick.j0, Bool.false_eq_true, if_false]
      rw [w64 (p + 1) (by omega) (by omega)]
      have e : wrap64 (p + 1 - 1) = p := by rw [w64 (p + 1 - 1) (by omega) (by omega)]; omega
      rw [e, if_neg hlt, if_neg (by omega), w64 (p * 7) (by omega) (by omega), w64 (p * 7 + 3) (by omega) (by omega),
        tmod_pos p _ h0, tmod_pos (p * 7 + 3) _ (by omega), if_pos m1, if_pos m2, if_pos m3, if_pos m4, if_neg (by omega)]
      rw [Int.tdiv_eq_ediv_of_nonneg h0, w64 (rd s (p % (s.length : Int))) (by omega) (by omega), w64 (rd s ((p * 7 + 3) % (s.length : Int))) (by omega) (by omega),
        w64 (rd s (p % (s.length : Int)) * 131) (by omega) (by omega), w64 (rd s ((p * 7 + 3) % (s.length : Int)) * 1117) (by omega) (by omega),
        w64 (p * 29) (by omega) (by omega), w64 (p / (s.length : Int)) (by omega) (by omega), w64 (p / (s.length : Int) * 53) (by omega) (by omega),
        w64 (rd s (p % (s.length : Int)) * 131 + rd s ((p * 7 + 3) % (s.length : Int)) * 1117) (by omega) (by omega),
        w64 (rd s (p % (s.length : Int)) * 131 + rd s ((p * 7 + 3) % (s.length : Int)) * 1117 + p * 29) (by omega) (by omega),
        w64 (rd s (p % (s.length : Int)) * 131 + rd s ((p * 7 + 3) % (s.length : Int)) * 1117 + p * 29 + p / (s.length : Int) * 53) (by omega) (by omega), ← hx,
        Int.tdiv_eq_ediv_of_nonneg x0, w64 (x / 64) (by omega) (by omega)]
/-- With c rounds or more g gives one answer, and P holds of it. -/
def Tot {α : Type} (c : Nat) (g : Nat → Option α) (P : α → Prop) : Prop := ∃ r, (∀ k, c ≤ k → g k = some r) ∧ P r
theorem Tot.some {α : Type} {P : α → Prop} {r : α} {c : Nat} (h : P r) : Tot c (fun _ => Option.some r) P := ⟨r, fun _ _ => rfl, h⟩
theorem Tot.bind {α β : Type} {c : Nat} {g : Nat → Option α} {f : Nat → α → Option β} {Q : α → Prop} {P : β → Prop} (h : Tot c g Q) (k : ∀ a, Q a → Tot c (fun n => f n a) P) : Tot c (fun n => (g n).bind (f n)) P := by
  obtain ⟨a, ha, hq⟩ := h
  obtain ⟨r, hr, hp⟩ := k a hq
  exact ⟨r, fun n hn => by show (g n).bind (f n) = _; rw [ha n hn]; exact hr n hn, hp⟩
theorem Tot.ite {α : Type} {d : Nat} {c : Prop} [Decidable c] {g f : Nat → Option α} {P : α → Prop} (h : c → Tot d g P) (k : ¬ c → Tot d f P) : Tot d (fun n => if c then g n else f n) P := by
  by_cases hc : c
  · obtain ⟨r, hr, hp⟩ := h hc
    exact ⟨r, fun n hn => (if_pos hc).trans (hr n hn), hp⟩
  · obtain ⟨r, hr, hp⟩ := k hc
    exact ⟨r, fun n hn => (if_neg hc).trans (hr n hn), hp⟩
theorem Tot.pos {α : Type} {d : Nat} {c : Prop} [Decidable c] {g f : Nat → Option α} {P : α → Prop} (hc : c) (h : Tot d g P) : Tot d (fun n => if c then g n else f n) P := Tot.ite (fun _ => h) (fun z => absurd hc z)
theorem Tot.neg {α : Type} {d : Nat} {c : Prop} [Decidable c] {g f : Nat → Option α} {P : α → Prop} (hc : ¬ c) (h : Tot d f P) : Tot d (fun n => if c then g n else f n) P := Tot.ite (fun z => absurd z hc) (fun _ => h)
theorem Tot.imp {α : Type} {c : Nat} {g : Nat → Option α} {Q P : α → Prop} (h : Tot c g Q) (k : ∀ a, Q a → P a) : Tot c g P := by
  obtain ⟨a, ha, hq⟩ := h
  exact ⟨a, ha, k a hq⟩
theorem Tot.up {α : Type} {c d : Nat} {g : Nat → Option α} {P : α → Prop} (h : Tot c g P) (hc : c ≤ d) : Tot d g P := by
  obtain ⟨a, ha, hq⟩ := h
  exact ⟨a, fun k hk => ha k (by omega), hq⟩
theorem Tot.succ {α : Type} {c : Nat} {g f : Nat → Option α} {P : α → Prop} (e : ∀ k, g (k + 1) = f k) (h : Tot c f P) : Tot (c + 1) g P := by
  obtain ⟨a, ha, hq⟩ := h
  refine ⟨a, fun k hk => ?_, hq⟩
  obtain ⟨m, rfl⟩ : ∃ m, k = m + 1 := ⟨k - 1, by omega⟩
  rw [e, ha m (by omega)]
theorem Tot.pick {s : List Int} (hs : Bytes s) (hl : s.length ≤ 2000) {p n : Int} {c : Nat} (hc : 1 ≤ c) (h0 : 0 ≤ p) (h1 : p ≤ 1000000) (hn : 1 ≤ n) (hn2 : n ≤ 1000000) :
    Tot c (fun k => spec_l6Rd_pick.f k s p n) (fun r => 0 ≤ r.1 ∧ r.1 < n ∧ r.2 = p + 1) := by
  obtain ⟨v, hv, g0, g1⟩ := pick_eq s hs hl p n h0 h1 hn hn2
  exact ⟨(v, p + 1), fun k hk => hv k (by omega), g0, g1, rfl⟩
abbrev Nt := Int × List Rn × Int
def NetOk (a p : Int) (r : Nt) : Prop := 2 ≤ r.1 ∧ r.1 ≤ a ∧ r.2.1.length ≤ 100 ∧ p ≤ r.2.2 ∧ r.2.2 ≤ p + 1000
theorem tot_j3 {s : List Int} (hS : Bytes s) (hl : s.length ≤ 2000) (n : Int) (l : List Rn) (hb : l.length ≤ 100) (p : Int) (h0 : 0 ≤ p) (h1 : p ≤ 1000) : Tot 2 (fun k => spec_l91Net.j3 k n l s p) (fun r => r.1 = n ∧ r.2.1.length = l.length ∧ p ≤ r.2.2 ∧ r.2.2 ≤ p + 2) := by
  refine Tot.succ (fun k => by simp only [spec_l91Net.j3]; rfl) ?_
  simp only [Option.bind_some]
  refine Tot.ite (fun c => ?_) (fun c => Tot.some (by dsimp only; omega))
  repeat' first
    | (refine Tot.some ⟨rfl, by simp, ?_, ?_⟩ <;> (dsimp only; omega))
    | (refine Tot.bind (Tot.pick hS hl (by omega) (by omega) (by omega) (by omega) (by omega)) ?_; rintro ⟨v, q⟩ ⟨g0, g1, g2⟩; dsimp only at *)
    | (refine Tot.pos (by omega) ?_)
    | (refine Tot.pos (by simp; omega) ?_)
    | (refine Tot.ite (fun c => ?_) (fun c => ?_))
    | (refine absurd ?_ c; first | omega | (simp; omega))
theorem tot_l2 {s : List Int} (hS : Bytes s) (hl : s.length ≤ 2000) (n : Int) : ∀ (d : Nat) (i : Int) (l : List Rn) (p : Int), l.length ≤ 100 → 0 ≤ i → i + d = l.length → 0 ≤ p → p + d ≤ 800 → Tot (d + 4) (fun k => spec_l91Net.l2 k n l i s p) (fun r => r.1 = n ∧ r.2.1.length = l.length ∧ p ≤ r.2.2 ∧ r.2.2 ≤ p + d + 5)
  | 0, i, l, p, hb, h0, h1, h2, h3 => by
    refine Tot.succ (fun k => by simp only [spec_l91Net.l2]; rfl) ?_
    refine Tot.neg (by omega) ?_
    refine Tot.ite (fun c => ?_) (fun c => (tot_j3 hS hl n l hb p h2 (by omega)).up (by omega) |>.imp (fun r hr => by omega))
    refine Tot.bind (Tot.pick hS hl (by omega) (by omega) (by omega) (by omega) (by omega)) ?_
    rintro ⟨v, q⟩ ⟨g0, g1, g2⟩
    dsimp only at *
    refine Tot.pos (by omega) (Tot.pos (by omega) (Tot.pos (by omega) ?_))
    refine (tot_j3 hS hl n _ (by simp; omega) q (by omega) (by omega)).up (by omega) |>.imp (fun r hr => ?_)
    simp only [List.length_set] at hr
    omega
  | d + 1, i, l, p, hb, h0, h1, h2, h3 => by
    refine Tot.succ (fun k => by simp only [spec_l91Net.l2]; rfl) ?_
    refine Tot.pos (by omega) ?_
    refine Tot.bind (Tot.pick hS hl (by omega) (by omega) (by omega) (by omega) (by omega)) ?_
    rintro ⟨v, q⟩ ⟨g0, g1, g2⟩
    dsimp only at *
    rw [w64 (i + 1) (by omega) (by omega)]
    refine Tot.ite (fun c => Tot.pos (by omega) ?_) (fun c => ?_)
    · refine (tot_l2 hS hl n d (i + 1) _ q (by simp; omega) (by omega) (by simp; omega) (by omega) (by omega)).up (by omega) |>.imp (fun r hr => ?_)
      simp only [List.length_set] at hr
      omega
    · refine (tot_l2 hS hl n d (i + 1) _ q (by omega) (by omega) (by omega) (by omega) (by omega)).up (by omega) |>.imp (fun r hr => ?_)
      omega
theorem tot_l1 {s : List Int} (hS : Bytes s) (hl : s.length ≤ 2000) (n : Int) (hn : 2 ≤ n ∧ n ≤ 10) (m : Int) (hm : m ≤ 10) : ∀ (d : Nat) (i : Int) (l : List Rn) (p : Int), (l.length : Int) ≤ 20 + i → 0 ≤ i → i + d = m → 0 ≤ p → p + 4 * d ≤ 300 → Tot (d + 50) (fun k => spec_l91Net.l1 k n l m i s p) (fun r => r.1 = n ∧ r.2.1.length ≤ 40 ∧ p ≤ r.2.2 ∧ r.2.2 ≤ p + 4 * d + 100)
  | 0, i, l, p, hb, h0, h1, h2, h3 => by
    refine Tot.succ (fun k => by simp only [spec_l91Net.l1]; rfl) ?_
    refine Tot.neg (by omega) ?_
    exact (tot_l2 hS hl n l.length 0 l p (by omega) (by omega) (by omega) (by omega) (by omega)).up (by omega) |>.imp (fun r hr => by omega)
  | d + 1, i, l, p, hb, h0, h1, h2, h3 => by
    refine Tot.succ (fun k => by simp only [spec_l91Net.l1]; rfl) ?_
    refine Tot.pos (by omega) ?_
    refine Tot.bind (Tot.pick hS hl (by omega) (by omega) (by omega) (by omega) (by omega)) ?_
    rintro ⟨v1, q1⟩ ⟨g0, g1, g2⟩
    dsimp only at *
    rw [w64 (n - 1) (by omega) (by omega)]
    refine Tot.bind (Tot.pick hS hl (by omega) (by omega) (by omega) (by omega) (by omega)) ?_
    rintro ⟨v2, q2⟩ ⟨g3, g4, g5⟩
    dsimp only at *
    refine Tot.neg (by omega) ?_
    refine Tot.bind (Tot.pick hS hl (by omega) (by omega) (by omega) (by omega) (by omega)) ?_
    rintro ⟨v3, q3⟩ ⟨g6, g7, g8⟩
    dsimp only at *
    refine Tot.bind (Tot.pick hS hl (by omega) (by omega) (by omega) (by omega) (by omega)) ?_
    rintro ⟨v4, q4⟩ ⟨g9, g10, g11⟩
    dsimp only at *
    refine Tot.pos (by omega) ?_
    rw [w64 (i + 1) (by omega) (by omega)]
    refine (tot_l1 hS hl n hn m hm d (i + 1) _ q4 (by simp; omega) (by omega) (by omega) (by omega) (by omega)).up (by omega) |>.imp (fun r hr => ?_)
    omega
theorem tot_l0 {s : List Int} (hS : Bytes s) (hl : s.length ≤ 2000) (n : Int) (hn : 2 ≤ n ∧ n ≤ 10) : ∀ (d : Nat) (i : Int) (l : List Rn) (p : Int), (l.length : Int) ≤ i → 1 ≤ i → i + d = n → 0 ≤ p → p + 4 * d ≤ 200 → Tot (d + 100) (fun k => spec_l91Net.l0 k n l i s p) (fun r => r.1 = n ∧ r.2.1.length ≤ 40 ∧ p ≤ r.2.2 ∧ r.2.2 ≤ p + 4 * d + 200)
  | 0, i, l, p, hb, h0, h1, h2, h3 => by
    refine Tot.succ (fun k => by simp only [spec_l91Net.l0]; rfl) ?_
    refine Tot.neg (by omega) ?_
    refine Tot.bind (Tot.pick hS hl (by omega) (by omega) (by omega) (by omega) (by omega)) ?_
    rintro ⟨v, q⟩ ⟨g0, g1, g2⟩
    dsimp only at *
    exact (tot_l1 hS hl n hn v (by omega) v.toNat 0 l q (by omega) (by omega) (by omega) (by omega) (by omega)).up (by omega) |>.imp (fun r hr => by omega)
  | d + 1, i, l, p, hb, h0, h1, h2, h3 => by
    refine Tot.succ (fun k => by simp only [spec_l91Net.l0]; rfl) ?_
    refine Tot.pos (by omega) ?_
    refine Tot.bind (Tot.pick hS hl (by omega) (by omega) (by omega) (by omega) (by omega)) ?_
    rintro ⟨v, q⟩ ⟨g0, g1, g2⟩
    dsimp only at *
    rw [w64 (i + 1) (by omega) (by omega)]
    refine Tot.ite (fun c => ?_) (fun c => ?_)
    · refine Tot.bind (Tot.pick hS hl (by omega) (by omega) (by omega) (by omega) (by omega)) ?_
      rintro ⟨v2, q2⟩ ⟨g3, g4, g5⟩
      dsimp only at *
      refine Tot.bind (Tot.pick hS hl (by omega) (by omega) (by omega) (by omega) (by omega)) ?_
      rintro ⟨v3, q3⟩ ⟨g6, g7, g8⟩
      dsimp only at *
      refine Tot.bind (Tot.pick hS hl (by omega) (by omega) (by omega) (by omega) (by omega)) ?_
      rintro ⟨v4, q4⟩ ⟨g9, g10, g11⟩
      dsimp only at *
      refine Tot.pos (by omega) ?_
      exact (tot_l0 hS hl n hn d (i + 1) _ q4 (by simp; omega) (by omega) (by omega) (by omega) (by omega)).up (by omega) |>.imp (fun r hr => by omega)
    · exact (tot_l0 hS hl n hn d (i + 1) _ q (by omega) (by omega) (by omega) (by omega) (by omega)).up (by omega) |>.imp (fun r hr => by omega)
theorem tot_l91Net {s : List Int} (hS : Bytes s) (hl : s.length ≤ 2000) (p a : Int) (h0 : 0 ≤ p) (h1 : p ≤ 100) (ha : 2 ≤ a ∧ a ≤ 8) : Tot 200 (fun k => spec_l91Net.f k s p a) (NetOk a p) := by
  unfold spec_l91Net.f
  rw [w64 (a - 1) (by omega) (by omega)]
  refine Tot.bind (Tot.pick hS hl (by omega) (by omega) (by omega) (by omega) (by omega)) ?_
  rintro ⟨v, q⟩ ⟨g0, g1, g2⟩
  dsimp only at *
  rw [w64 (2 + v) (by omega) (by omega)]
  refine (tot_l0 hS hl (2 + v) (by omega) (1 + v).toNat 1 [] q (by simp) (by omega) (by omega) (by omega) (by omega)).up (by omega) |>.imp (fun r hr => ?_)
  unfold NetOk
  omega
theorem tot_DrawTreeWeight (l : List Int) (hb : Bytes l) : Tot 300 (fun k => spec_DrawTreeWeight.f k l) (fun r => r.2.length ≤ 100) := by
  unfold spec_DrawTreeWeight.f
  obtain ⟨s, hs, hl, hB⟩ := open_eq l
  have hS := hB hb
  rw [hs]
  simp only [Option.bind_some]
  refine Tot.bind ((tot_l91Net hS hl 0 5 (by omega) (by omega) (by omega)).up (by omega)) ?_
  rintro ⟨n, r, p⟩ hx
  unfold NetOk at hx
  dsimp only at *
  exact Tot.some (by dsimp only; omega)
theorem upto_set (f : Rn → Rn) (l : List Rn) {i : Int} (h0 : 0 ≤ i) (h1 : i < l.length) : (((l.take i.toNat).map f) ++ l.drop i.toNat).set i.toNat (f (rd_T36 l i)) = ((l.take (i + 1).toNat).map f) ++ l.drop (i + 1).toNat := by
  have e : (i + 1).toNat = i.toNat + 1 := by omega
  have hi : i.toNat < l.length := by omega
  rw [drop_rd h0 h1, List.set_append_right _ _ (by simp; omega), List.length_map, List.length_take, show i.toNat - min i.toNat l.length = 0 by omega, List.set_cons_zero, e, List.take_add_one, List.map_append, List.append_assoc]
  congr 1
  rw [List.getElem?_eq_getElem hi]
  unfold rd_T36
  rw [List.getD_eq_getElem?_getD, List.getElem?_eq_getElem hi]
  rfl
theorem upto_rd (f : Rn → Rn) (l : List Rn) {i : Int} (h0 : 0 ≤ i) (h1 : i < l.length) : rd_T36 (((l.take i.toNat).map f) ++ l.drop i.toNat) i = rd_T36 l i := by
  rw [drop_rd h0 h1]
  unfold rd_T36
  rw [List.getD_eq_getElem?_getD, List.getElem?_append_right (by simp; omega), List.length_map, List.length_take, show i.toNat - min i.toNat l.length = 0 by omega]
  rfl
theorem upto_rd' (f : Rn → Rn) (l : List Rn) {i : Int} (h0 : 0 ≤ i) (h1 : i < l.length) : rd_T36 (((l.take (i + 1).toNat).map f) ++ l.drop (i + 1).toNat) i = f (rd_T36 l i) := by
  rw [← upto_set f l h0 h1]
  unfold rd_T36
  rw [List.getD_eq_getElem?_getD, List.getElem?_set_self (by simp; omega)]
  rfl
theorem upto_len (f : Rn → Rn) (l : List Rn) (i : Nat) : (((l.take i).map f) ++ l.drop i).length = l.length := by
  rw [List.length_append, List.length_map, ← List.length_append, List.take_append_drop]
def nines (l : List Rn) : Bool := l.all (fun r => decide (2 * r.f3 ≤ 9))
theorem nines_next (l : List Rn) {i : Int} (h0 : 0 ≤ i) (h1 : i < l.length) : nines (l.take (i + 1).toNat) = (nines (l.take i.toNat) && decide (2 * (rd_T36 l i).f3 ≤ 9)) := by
  have e : (i + 1).toNat = i.toNat + 1 := by omega
  have hi : i.toNat < l.length := by omega
  unfold nines
  rw [e, List.take_add_one, List.all_append, List.getElem?_eq_getElem hi]
  unfold rd_T36
  rw [List.getD_eq_getElem?_getD, List.getElem?_eq_getElem hi]
  simp
theorem pow2_bound {n : Int} (h : n ≤ 6) : (2 : Int) ^ (n - 1).toNat ≤ 32 := by
  have : (n - 1).toNat ≤ 5 := by omega
  rcases (show (n - 1).toNat = 0 ∨ (n - 1).toNat = 1 ∨ (n - 1).toNat = 2 ∨ (n - 1).toNat = 3 ∨ (n - 1).toNat = 4 ∨ (n - 1).toNat = 5 by omega) with e | e | e | e | e | e <;> rw [e] <;> decide
theorem treeWeight_bound (n : Int) (l : List Rn) : -1 ≤ treeWeight n l ∧ treeWeight n l ≤ 1000000000 := by
  by_cases hv : valid n l = true
  · have v := valid_iff.mp hv
    have b := weight_bound hv
    have c := treeMany_bound n l
    have p9 : (9 : Int) ^ (n - 1).toNat ≤ 9 ^ 5 := pow9_mono (by omega)
    have e5 : (9 : Int) ^ 5 = 59049 := by decide
    have c0 : 0 ≤ treeMany n l := by unfold treeMany; rw [if_pos hv]; omega
    have m := Int.mul_le_mul_of_nonneg_left p9 c0
    omega
  · unfold treeWeight; rw [if_neg hv]; omega
theorem one_l1 {n : Int} {l : List Rn} (hv : valid n l = true) (b : Bool) (hb : b = true → ∀ r ∈ l, 2 * r.f3 ≤ 9) : ∀ (d k : Nat) (i x : Int), 1 ≤ i → i + d = n → x = 2 ^ (i - 1).toNat → 5000 + d ≤ k → laws_FnTreeWeightOne.l1 k n l (treeWeight n l) (l.map w1) (l.map w2) b x i = some true := by
  have v := valid_iff.mp hv
  intro d
  induction d with
  | zero =>
    intro k i x h0 h1 hx hk
    obtain ⟨k, rfl⟩ : ∃ m, k = m + 1 := ⟨k - 1, by omega⟩
    obtain rfl : i = n := by omega
    have wb := weight_bound hv
    have tb := treeWeight_bound i l
    have t0 : 0 ≤ treeWeight i l := by
      have : 0 ≤ treeMany i l := by unfold treeMany; rw [if_pos hv]; omega
      omega
    simp only [laws_FnTreeWeightOne.l1]
    rw [if_neg (by omega), iTreeMany_eq _ _ (by omega) k (by omega), Option.bind_some, iTreeWeight_eq _ _ (by rw [List.length_map]; omega) k (by rw [List.length_map]; omega), Option.bind_some, weight_one hv, if_pos rfl, if_pos wb.1]
    cases b with
    | false => rw [if_neg (by decide)]
    | true =>
      have p := pow2_bound v.2.1
      rw [← hx] at p
      have x0 : 0 ≤ x := by rw [hx]; exact Int.le_of_lt (Int.pow_pos (by omega))
      have m1 := Int.mul_le_mul_of_nonneg_left tb.2 x0
      have m2 := Int.mul_nonneg x0 t0
      rw [if_pos rfl, iTreeWeight_eq _ _ (by rw [List.length_map]; omega) k (by rw [List.length_map]; omega), Option.bind_some, weight_two hv (hb rfl), ← hx, w64 _ (by omega) (by omega)]
      simp
  | succ d ih =>
    intro k i x h0 h1 hx hk
    obtain ⟨k, rfl⟩ : ∃ m, k = m + 1 := ⟨k - 1, by omega⟩
    have p := pow2_bound (n := i) (by omega)
    rw [← hx] at p
    have x0 : 0 ≤ x := by rw [hx]; exact Int.le_of_lt (Int.pow_pos (by omega))
    simp only [laws_FnTreeWeightOne.l1]
    rw [if_pos (by omega), w64 (2 * x) (by omega) (by omega), w64 (i + 1) (by omega) (by omega)]
    refine ih k (i + 1) _ (by omega) (by omega) ?_ (by omega)
    rw [hx, show (i + 1 - 1).toNat = (i - 1).toNat + 1 by omega, Int.pow_succ, Int.mul_comm]
theorem one_l0 {n : Int} {l : List Rn} (hv : valid n l = true) : ∀ (d k : Nat) (i : Int), 0 ≤ i → i + d = l.length → 6000 + d ≤ k → laws_FnTreeWeightOne.l0 k n l (treeWeight n l) (((l.take i.toNat).map w1) ++ l.drop i.toNat) (((l.take i.toNat).map w2) ++ l.drop i.toNat) (nines (l.take i.toNat)) 1 i = some true := by
  have v := valid_iff.mp hv
  intro d
  induction d with
  | zero =>
    intro k i h0 h1 hk
    obtain ⟨k, rfl⟩ : ∃ m, k = m + 1 := ⟨k - 1, by omega⟩
    simp only [laws_FnTreeWeightOne.l0]
    rw [if_neg (by omega), drop_end (by omega), List.append_nil, List.append_nil, List.take_of_length_le (by omega)]
    refine one_l1 hv _ (fun h r hr => ?_) (n - 1).toNat k 1 1 (by omega) (by omega) rfl (by omega)
    unfold nines at h
    exact of_decide_eq_true (List.all_eq_true.mp h r hr)
  | succ d ih =>
    intro k i h0 h1 hk
    obtain ⟨k, rfl⟩ : ∃ m, k = m + 1 := ⟨k - 1, by omega⟩
    have hi : i < (l.length : Int) := by omega
    have ok := okRun_iff.mp (v.2.2.2 _ (rdR_mem h0 hi))
    have s1 : (((l.take i.toNat).map w1) ++ l.drop i.toNat).set i.toNat ⟨(rd_T36 l i).f0, (rd_T36 l i).f1, (rd_T36 l i).f2, 1⟩ = ((l.take (i + 1).toNat).map w1) ++ l.drop (i + 1).toNat := upto_set w1 l h0 hi
    have s2 : (((l.take i.toNat).map w2) ++ l.drop i.toNat).set i.toNat ⟨(rd_T36 l i).f0, (rd_T36 l i).f1, (rd_T36 l i).f2, 2 * (rd_T36 l i).f3⟩ = ((l.take (i + 1).toNat).map w2) ++ l.drop (i + 1).toNat := upto_set w2 l h0 hi
    have g1 := upto_rd w1 l h0 hi
    have g2 := upto_rd w2 l h0 hi
    have nx := nines_next l h0 hi
    simp only [laws_FnTreeWeightOne.l0, Option.bind_some]
    rw [if_pos hi, if_pos h0, upto_len, upto_len, if_pos hi, if_pos hi, g1, g2, w64 (2 * _) (by omega) (by omega), w64 (i + 1) (by omega) (by omega)]
    rw [s1, s2, upto_rd' w2 l h0 hi]
    have nxt := ih k (i + 1) (by omega) (by omega) (by omega)
    rw [nx] at nxt
    by_cases c : nines (l.take i.toNat) = true
    · rw [if_pos c]
      rw [c, Bool.true_and] at nxt
      exact nxt
    · rw [if_neg c]
      rw [Bool.not_eq_true] at c
      rw [c, Bool.false_and] at nxt
      exact nxt
theorem one_j0 {n : Int} {l : List Rn} (hl : l.length ≤ 100) (k : Nat) (hk : 7000 ≤ k) : laws_FnTreeWeightOne.j0 k n l (treeWeight n l) (treeWeight n l) (decide (treeWeight n l < 0)) = some true := by
  obtain ⟨k, rfl⟩ : ∃ m, k = m + 1 := ⟨k - 1, by omega⟩
  simp only [laws_FnTreeWeightOne.j0, List.nil_append, Option.bind_some]
  by_cases hv : valid n l = true
  · have hp : ¬ treeWeight n l < 0 := by
      have := weight_bound hv
      have : 0 ≤ treeMany n l := by unfold treeMany; rw [if_pos hv]; omega
      omega
    rw [decide_eq_false hp, if_neg (by decide), if_pos (by simp; omega), if_pos (by simp; omega)]
    exact one_l0 hv l.length k 0 (by omega) (by omega) (by omega)
  · have hp : treeWeight n l < 0 := by unfold treeWeight; rw [if_neg hv]; omega
    rw [decide_eq_true hp, if_pos rfl]
    simp
theorem FnTreeWeightOne : ∀ (l0 : List Int), l0.length ≤ maxLen → l0.length * 1 ≤ 140737488351232 → (∀ x ∈ l0, (Lit.int .u8 x).wf = true) → ∃ k, laws_FnTreeWeightOne.f k l0 = some true := by
  intro l0 _ _ hw
  obtain ⟨⟨n, l⟩, hd, hll⟩ := tot_DrawTreeWeight l0 (Bytes.of_wf hw)
  dsimp only at hll
  obtain ⟨K, hK⟩ : ∃ K : Nat, 100000 ≤ K := ⟨100000, Nat.le_refl _⟩
  refine ⟨K, ?_⟩
  unfold laws_FnTreeWeightOne.f
  by_cases hlen : (l0.length : Int) > 1048576
  · rw [if_pos hlen]
  · have hd2 : spec_DrawTreeWeight.f K l0 = some (n, l) := hd _ (by omega)
    rw [if_neg hlen, hd2]
    simp only [Option.bind_some]
    rw [iTreeWeight_eq n l (by omega) _ (by omega), sTreeWeight_eq n l (by omega) _ (by omega)]
    simp only [Option.bind_some, if_true]
    exact one_j0 hll K (by omega)
end Go.Proofs.Ytbnndmkkmceenaa.Pure
