import Derived.RowKit
import Derived.Test.YtbnndmkkmceenaaP5x1
import Derived.Test.YtbnndmkkmceenaaRk
/- The law FnExactTreeWeight of the printed functions: its plain proof, in one text (wip/tools/fuse.py). -/
namespace Go.Proofs.Ytbnndmkkmceenaa.Pure
set_option linter.unusedVariables false
set_option linter.unusedSimpArgs false
open Go.RowKit Go.Proofs.Ytbnndmkkmceenaa.P0 Go.Proofs.Ytbnndmkkmceenaa.P1 Go.Proofs.Ytbnndmkkmceenaa.P5 Go.Proofs.Ytbnndmkkmceenaa.Hand Go.Proofs.YtbnndmkkmceenaaW.PrintWords Go.Proofs.YtbnndmkkmceenaaW.PrintLast
abbrev Rn := S36
abbrev Ln := S73
theorem w64 (x : Int) (h0 : -9223372036854775808 ≤ x) (h1 : x ≤ 9223372036854775807) : wrap64 x = x := by unfold wrap64; omega
theorem drop_rd {l : List Rn} {i : Int} (h0 : 0 ≤ i) (h1 : i < l.length) : l.drop i.toNat = rd_T36 l i :: l.drop (i + 1).toNat := by
  rw [List.drop_eq_getElem_cons (by omega)]
  unfold rd_T36
  rw [List.getD_eq_getElem?_getD, List.getElem?_eq_getElem (by omega), Option.getD_some, show (i + 1).toNat = i.toNat + 1 by omega]
theorem drop_int {l : List Int} {i : Int} (h0 : 0 ≤ i) (h1 : i < l.length) : l.drop i.toNat = rd l i :: l.drop (i + 1).toNat := by
  rw [List.drop_eq_getElem_cons (by omega)]
  unfold rd
  rw [List.getD_eq_getElem?_getD, List.getElem?_eq_getElem (by omega), Option.getD_some, show (i + 1).toNat = i.toNat + 1 by omega]
theorem drop_end {α : Type} {l : List α} {i : Int} (h : (l.length : Int) ≤ i) : l.drop i.toNat = [] := List.drop_eq_nil_of_le (by omega)
def okRun (n : Int) (r : Rn) : Bool := decide (0 ≤ r.f0) && decide (r.f0 < n) && decide (0 ≤ r.f1) && decide (r.f1 < n) && decide (r.f0 ≠ r.f1) && decide (-100000 ≤ r.f2) && decide (r.f2 ≤ 100000) && decide (1 ≤ r.f3) && decide (r.f3 ≤ 9)
theorem okRun_iff {n : Int} {r : Rn} : okRun n r = true ↔ (0 ≤ r.f0 ∧ r.f0 < n) ∧ (0 ≤ r.f1 ∧ r.f1 < n) ∧ r.f0 ≠ r.f1 ∧ (-100000 ≤ r.f2 ∧ r.f2 ≤ 100000) ∧ (1 ≤ r.f3 ∧ r.f3 ≤ 9) := by
  unfold okRun
  simp only [Bool.and_eq_true, decide_eq_true_eq, and_assoc]
def valid (n : Int) (l : List Rn) : Bool := decide (2 ≤ n) && decide (n ≤ 6) && decide (l.length ≤ 12) && l.all (okRun n)
theorem valid_iff {n : Int} {l : List Rn} : valid n l = true ↔ 2 ≤ n ∧ n ≤ 6 ∧ l.length ≤ 12 ∧ ∀ r ∈ l, okRun n r = true := by
  unfold valid
  simp only [Bool.and_eq_true, decide_eq_true_eq, and_assoc, List.all_eq_true]
theorem within_eq (a b : Int) (h0 : 0 ≤ b) (h1 : b ≤ 9000000000000000000) : impl_within.f a b = some (decide (-b ≤ a) && decide (a ≤ b)) := by
  unfold impl_within.f
  rw [w64 _ (by omega) (by omega)]
  by_cases h : -b ≤ a
  · rw [if_pos h]; simp [h]
  · rw [if_neg h]; simp [h]
theorem runValid_eq (n : Int) (r : Rn) : impl_runValid.f n r.f0 r.f1 r.f2 r.f3 = some (okRun n r) := by
  unfold impl_runValid.f okRun
  rw [within_eq _ _ (by omega) (by omega)]
  by_cases a : r.f0 < 0
  · rw [if_pos a]; congr 1; symm; simp [show ¬ 0 ≤ r.f0 by omega]
  · rw [if_neg a]
    by_cases b : r.f0 ≥ n
    · rw [if_pos b]; congr 1; symm; simp [show ¬ r.f0 < n by omega]
    · rw [if_neg b]
      by_cases c : r.f1 < 0
      · rw [if_pos c]; congr 1; symm; simp [show ¬ 0 ≤ r.f1 by omega]
      · rw [if_neg c]
        by_cases d : r.f1 ≥ n
        · rw [if_pos d]; congr 1; symm; simp [show ¬ r.f1 < n by omega]
        · rw [if_neg d]
          by_cases e : r.f0 = r.f1
          · rw [if_pos e]; congr 1; symm; simp [e]
          · rw [if_neg e]
            simp only [Option.bind_some, Bool.and_eq_true, decide_eq_true_eq]
            have h0 : 0 ≤ r.f0 := by omega
            have h1 : r.f0 < n := by omega
            have h2 : 0 ≤ r.f1 := by omega
            have h3 : r.f1 < n := by omega
            simp only [h0, h1, h2, h3, e, ne_eq, not_false_eq_true, decide_true, Bool.true_and]
            by_cases f : -100000 ≤ r.f2 ∧ r.f2 ≤ 100000
            · rw [if_pos f]
              simp only [f.1, f.2, decide_true, Bool.true_and]
              by_cases g : r.f3 ≥ 1
              · rw [if_pos g, decide_eq_true (show (1:Int) ≤ r.f3 from g), Bool.true_and]
              · rw [if_neg g, decide_eq_false (show ¬ (1:Int) ≤ r.f3 from g), Bool.false_and]
            · rw [if_neg f]
              by_cases g : -100000 ≤ r.f2
              · have : ¬ r.f2 ≤ 100000 := fun z => f ⟨g, z⟩
                simp [g, this]
              · simp [g]
theorem iNetValid_l0 (n : Int) (l : List Rn) (hl : l.length ≤ 1000000000) : ∀ (k : Nat) (i : Int), 0 ≤ i → i ≤ l.length → l.length < k + i → impl_NetValid.l0 k n l (l.length : Int) i = some ((l.drop i.toNat).all (okRun n))
  | 0, i, _, h1, h2 => by omega
  | k + 1, i, h0, h1, h2 => by
    simp only [impl_NetValid.l0]
    by_cases h : i < (l.length : Int)
    · rw [if_pos h, if_pos h0, if_pos h, runValid_eq, Option.bind_some, drop_rd h0 h, List.all_cons]
      cases hv : okRun n (rd_T36 l i) with
      | true =>
        rw [if_pos rfl, w64 _ (by omega) (by omega), iNetValid_l0 n l hl k (i + 1) (by omega) (by omega) (by omega)]
        rfl
      | false => rfl
    · rw [if_neg h, drop_end (by omega)]; rfl
theorem iNetValid_eq (n : Int) (l : List Rn) (hl : l.length ≤ 1000000000) (k : Nat) (hk : l.length + 2 ≤ k) : impl_NetValid.f k n l = some (valid n l) := by
  unfold impl_NetValid.f valid
  obtain ⟨k, rfl⟩ : ∃ m, k = m + 1 := ⟨k - 1, by omega⟩
  simp only [impl_NetValid.j0]
  by_cases a : n < 2
  · rw [if_pos a, if_pos trivial]; congr 1; symm; simp [show ¬ 2 ≤ n by omega]
  · rw [if_neg a]
    by_cases b : n > 6
    · rw [if_pos b, if_pos trivial]; congr 1; symm; simp [show ¬ n ≤ 6 by omega]
    · rw [if_neg b]
      have h2 : 2 ≤ n := by omega
      have h6 : n ≤ 6 := by omega
      simp only [h2, h6, decide_true, Bool.true_and, decide_eq_true_eq]
      by_cases c : (l.length : Int) > 12
      · rw [if_pos c]; congr 1; symm; simp [show ¬ l.length ≤ 12 by omega]
      · rw [if_neg c, iNetValid_l0 n l hl k 0 (by omega) (by omega) (by omega)]
        simp [show l.length ≤ 12 by omega]
theorem l6In_eq (a b c : Int) : spec_l6In.f a b c = some (decide (b ≤ a) && decide (a ≤ c)) := by
  unfold spec_l6In.f
  by_cases h : a ≥ b
  · rw [if_pos h, decide_eq_true (show b ≤ a from h), Bool.true_and]
  · rw [if_neg h, decide_eq_false (show ¬ b ≤ a from h), Bool.false_and]
theorem sNetValid_l0 (n : Int) (hn : 2 ≤ n ∧ n ≤ 6) (l : List Rn) (hl : l.length ≤ 1000000000) : ∀ (k : Nat) (i : Int), 0 ≤ i → i ≤ l.length → 2 * (l.length : Int) < k + 2 * i → spec_NetValid.l0 k n l i = some ((l.drop i.toNat).all (okRun n))
  | 0, i, _, h1, h2 => by omega
  | k + 1, i, h0, h1, h2 => by
    simp only [spec_NetValid.l0]
    by_cases h : i < (l.length : Int)
    · rw [if_pos h, if_pos h0, l6In_eq, l6In_eq, w64 _ (by omega) (by omega), drop_rd h0 h, List.all_cons]
      obtain ⟨k, rfl⟩ : ∃ m, k = m + 1 := ⟨k - 1, by omega⟩
      simp only [Option.bind_some, spec_NetValid.j2, l6In_eq, if_true]
      rw [w64 _ (by omega) (by omega), sNetValid_l0 n hn l hl k (i + 1) (by omega) (by omega) (by omega)]
      generalize rd_T36 l i = r
      generalize (l.drop (i + 1).toNat).all (okRun n) = t
      have hk : okRun n r = ((decide (0 ≤ r.f0) && decide (r.f0 ≤ n - 1)) && ((decide (0 ≤ r.f1) && decide (r.f1 ≤ n - 1)) && (!(r.f0 == r.f1) && ((decide (-100000 ≤ r.f2) && decide (r.f2 ≤ 100000)) && (decide (1 ≤ r.f3) && decide (r.f3 ≤ 9)))))) := by
        rw [Bool.eq_iff_iff, okRun_iff]
        simp only [Bool.and_eq_true, decide_eq_true_eq, Bool.not_eq_true', beq_eq_false_iff_ne, ne_eq]
        omega
      rw [hk]
      generalize (decide (0 ≤ r.f0) && decide (r.f0 ≤ n - 1)) = b1
      generalize (decide (0 ≤ r.f1) && decide (r.f1 ≤ n - 1)) = b2
      generalize (r.f0 == r.f1) = b3
      generalize (decide (-100000 ≤ r.f2) && decide (r.f2 ≤ 100000)) = b4
      generalize (decide (1 ≤ r.f3) && decide (r.f3 ≤ 9)) = b5
      cases b1 <;> cases b2 <;> cases b3 <;> cases b4 <;> cases b5 <;> simp
    · rw [if_neg h, drop_end (by omega)]; rfl
theorem sNetValid_eq (n : Int) (l : List Rn) (hl : l.length ≤ 1000000000) (k : Nat) (hk : 2 * l.length + 2 ≤ k) : spec_NetValid.f k n l = some (valid n l) := by
  unfold spec_NetValid.f valid
  rw [l6In_eq, Option.bind_some]
  obtain ⟨k, rfl⟩ : ∃ m, k = m + 1 := ⟨k - 1, by omega⟩
  simp only [spec_NetValid.j0]
  by_cases a : 2 ≤ n ∧ n ≤ 6
  · simp only [a.1, a.2, decide_true, Bool.and_self, if_true, Bool.true_and, decide_eq_true_eq]
    by_cases c : (l.length : Int) > 12
    · rw [if_pos c]; congr 1; symm; simp [show ¬ l.length ≤ 12 by omega]
    · rw [if_neg c, sNetValid_l0 n a l hl k 0 (by omega) (by omega) (by omega)]
      simp [show l.length ≤ 12 by omega]
  · have : (decide (2 ≤ n) && decide (n ≤ 6)) = false := by
      rw [Bool.eq_false_iff]; simpa using fun z => by omega
    rw [this]; simp
def cv (r : Ln) : Rn := ⟨r.f0, r.f1, r.f2, r.f3⟩
theorem szRunS_eq (l : List Ln) (h : l.length ≤ 9000000000000000000) : laws_szRunS.f l 1048576 = some (if (l.length : Int) > 1048576 then (-1 : Int) else 1048576 - (l.length : Int)) := by
  unfold laws_szRunS.f
  rw [w64 _ (by omega) (by omega)]
  split <;> split <;> first | rfl | omega
theorem set_map {α β : Type} (f : α → β) (z : β) (l : List α) (x : α) (i : Nat) (h : i < l.length) (hx : l[i]? = some x) :
    (((l.take i).map f) ++ List.replicate (l.length - i) z).set i (f x) = ((l.take (i + 1)).map f) ++ List.replicate (l.length - (i + 1)) z := by
  rw [List.set_append_right _ _ (by simp; omega)]
  have e1 : i - ((l.take i).map f).length = 0 := by simp; omega
  rw [e1, show l.length - i = (l.length - (i + 1)) + 1 by omega, List.replicate_succ, List.set_cons_zero, List.take_add_one, hx]
  simp
theorem toRunS_l0 (l : List Ln) (hl : l.length ≤ 1000000000) : ∀ (k : Nat) (i : Int), 0 ≤ i → i ≤ l.length → l.length < k + i → laws_toRunS.l0 k l (((l.take i.toNat).map cv) ++ List.replicate (l.length - i.toNat) z36) i = some (l.map cv)
  | 0, i, _, h1, h2 => by omega
  | k + 1, i, h0, h1, h2 => by
    simp only [laws_toRunS.l0, laws_toRun.f, Option.bind_some]
    by_cases h : i < (l.length : Int)
    · rw [if_pos h, if_pos h0, if_pos (by simp; omega), w64 _ (by omega) (by omega)]
      have hx : l[i.toNat]? = some (rd_T73 l i) := by
        unfold rd_T73
        rw [List.getD_eq_getElem?_getD, List.getElem?_eq_getElem (by omega), Option.getD_some]
      have e := set_map cv z36 l _ i.toNat (by omega) hx
      show laws_toRunS.l0 k l ((((l.take i.toNat).map cv) ++ List.replicate (l.length - i.toNat) z36).set i.toNat (cv (rd_T73 l i))) (i + 1) = _
      rw [e]
      have := toRunS_l0 l hl k (i + 1) (by omega) (by omega) (by omega)
      rw [show (i + 1).toNat = i.toNat + 1 by omega] at this
      exact this
    · rw [if_neg h]
      obtain rfl : i = l.length := by omega
      simp
theorem toRunS_eq (l : List Ln) (hl : l.length ≤ 1000000000) (k : Nat) (hk : l.length + 2 ≤ k) : laws_toRunS.f k l = some (l.map cv) := by
  unfold laws_toRunS.f
  rw [if_pos (by omega), if_pos (by omega)]
  have := toRunS_l0 l hl k 0 (by omega) (by omega) (by omega)
  simpa using this
theorem eqRunS_l0 (l : List Rn) (hl : l.length ≤ 1000000000) : ∀ (k : Nat) (i : Int), 0 ≤ i → i ≤ l.length → l.length < k + i → laws_eqRunS.l0 k l l i = some true
  | 0, i, _, h1, h2 => by omega
  | k + 1, i, h0, h1, h2 => by
    simp only [laws_eqRunS.l0, laws_eqRun.f, if_true, Option.bind_some]
    by_cases h : i < (l.length : Int)
    · rw [if_pos h, if_pos h0, if_pos h, w64 _ (by omega) (by omega)]
      exact eqRunS_l0 l hl k (i + 1) (by omega) (by omega) (by omega)
    · rw [if_neg h]
theorem eqRunS_eq (l : List Rn) (hl : l.length ≤ 1000000000) (k : Nat) (hk : l.length + 2 ≤ k) : laws_eqRunS.f k l l = some true := by
  unfold laws_eqRunS.f
  rw [if_pos rfl]
  exact eqRunS_l0 l hl k 0 (by omega) (by omega) (by omega)
theorem rdR_mem {l : List Rn} {i : Int} (h0 : 0 ≤ i) (h1 : i < l.length) : rd_T36 l i ∈ l := by
  unfold rd_T36
  rw [List.getD_eq_getElem?_getD, List.getElem?_eq_getElem (by omega), Option.getD_some]
  exact List.getElem_mem _
def rs (l : List Rn) : List Gr.R := l.map (fun r => (r.f0, r.f1, r.f2))
def es (l : List Rn) : List Gr.E := Gr.eds (rs l)
theorem es_eq (l : List Rn) : es l = l.map (fun r => (r.f0, r.f1)) := by unfold es rs Gr.eds; rw [List.map_map]; rfl
theorem es_length (l : List Rn) : (es l).length = l.length := by rw [es_eq]; simp
theorem rs_getD (l : List Rn) (k : Nat) : (rs l).getD k (0, 0, 0) = ((rd_T36 l k).f0, (rd_T36 l k).f1, (rd_T36 l k).f2) := by
  unfold rs rd_T36
  rw [List.getD_eq_getElem?_getD, List.getD_eq_getElem?_getD, List.getElem?_map, Int.toNat_natCast]
  cases l[k]? <;> rfl
theorem es_ed (l : List Rn) (k : Nat) : Gr.ed (es l) k = ((rd_T36 l k).f0, (rd_T36 l k).f1) := by
  unfold es; rw [Gr.ed_eds, rs_getD]
theorem rd_nat (l : List Rn) (i : Int) : rd_T36 l ((i.toNat : Nat) : Int) = rd_T36 l i := by
  unfold rd_T36; rw [Int.toNat_natCast]
theorem rd_gt (L : List Int) (i : Int) : rd L i = Gr.gt L i := rfl
theorem mn_min (a b : Int) : mn a b = min a b := by unfold mn; split <;> omega
theorem ok_ends {n : Int} {l : List Rn} (hr : ∀ r ∈ l, okRun n r = true) : Gr.Ends n (es l) := by
  intro e he
  rw [es_eq] at he
  obtain ⟨r, hm, rfl⟩ := List.mem_map.mp he
  have := okRun_iff.mp (hr r hm)
  exact ⟨this.1.1, this.1.2, this.2.1.1, this.2.1.2, this.2.2.1⟩
theorem leastLinked_eq {n : Int} {l : List Rn} (h2 : 2 ≤ n) (h6 : n ≤ 6) (hl : l.length ≤ 1000) (hr : ∀ r ∈ l, okRun n r = true) : impl_leastLinked.f n l = some (Gr.labs n (es l)) := by
  unfold impl_leastLinked.f
  have hw : l.all wfEnds = true := by
    rw [List.all_eq_true]
    intro r hm
    have := okRun_iff.mp (hr r hm)
    unfold wfEnds
    rw [WalkArith.wf_i64 (n := r.f0) (by omega), WalkArith.wf_i64 (n := r.f1) (by omega)]
    rfl
  rw [if_pos ⟨h2, h6, hl, hw⟩]
  have := Gr.least_labs (ok_ends hr) (by omega) (by omega) (k := 100) (by omega)
  unfold Gr.least at this
  rw [if_pos (by omega)] at this
  rw [← this, es_eq]
  rfl
theorem es_drop {l : List Rn} {i : Int} (h0 : 0 ≤ i) (h1 : i < l.length) : (es l).drop i.toNat = ((rd_T36 l i).f0, (rd_T36 l i).f1) :: (es l).drop (i + 1).toNat := by
  rw [es_eq, ← List.map_drop, drop_rd h0 h1, ← List.map_drop]; rfl
theorem linked_l2 {n : Int} {l : List Rn} (hn : n ≤ 1000) (hl : l.length ≤ 1000000000) (hr : ∀ r ∈ l, okRun n r = true) (x7 : Int) : ∀ (d k : Nat) (i : Int) (out : List Int), 0 ≤ i → i + d = l.length → (out.length : Int) = n → spec_l11Linked.l2 (k + d + 1) n l out x7 i = spec_l11Linked.l1 k n l (((es l).drop i.toNat).foldl Gr.stepL out) (wrap64 (x7 + 1))
  | 0, k, i, out, h0, h1, _ => by
    show spec_l11Linked.l2 (k + 1) n l out x7 i = _
    simp only [spec_l11Linked.l2]
    rw [if_neg (by omega), List.drop_eq_nil_of_le (by rw [es_length]; omega)]
    rfl
  | d + 1, k, i, out, h0, h1, ho => by
    obtain ⟨m, hm⟩ : ∃ m, m = k + d + 1 := ⟨_, rfl⟩
    rw [show k + (d + 1) + 1 = m + 1 by omega]
    simp only [spec_l11Linked.l2]
    rw [hm]
    have ok := okRun_iff.mp (hr _ (rdR_mem h0 (by omega)))
    rw [if_pos (by omega), if_pos h0, if_pos ok.1.1, if_pos (by omega), if_pos ok.2.1.1, if_pos (by omega), w64 (i + 1) (by omega) (by omega), es_drop h0 (by omega), List.foldl_cons]
    rw [mn_min, rd_gt, rd_gt]
    exact linked_l2 hn hl hr x7 d k (i + 1) (Gr.stepL out ((rd_T36 l i).f0, (rd_T36 l i).f1)) (by omega) (by omega) (by unfold Gr.stepL; simpa using ho)
theorem stepL_length (fs : List Gr.E) : ∀ (out : List Int), (fs.foldl Gr.stepL out).length = out.length := by
  induction fs with
  | nil => intro out; rfl
  | cons f fs ih => intro out; rw [List.foldl_cons, ih]; unfold Gr.stepL; simp
theorem linked_l1 {n : Int} {l : List Rn} (hn : n ≤ 1000) (hl : l.length ≤ 1000000000) (hr : ∀ r ∈ l, okRun n r = true) : ∀ (d k : Nat) (i : Int) (out : List Int), 0 ≤ i → i + d = n → (out.length : Int) = n → spec_l11Linked.l1 (k + d * (l.length + 2) + 1) n l out i = some (Gr.rounds (es l) d out)
  | 0, k, i, out, h0, h1, _ => by
    rw [show k + 0 * (l.length + 2) + 1 = k + 1 by omega]
    simp only [spec_l11Linked.l1]
    rw [if_neg (by omega)]
    rfl
  | d + 1, k, i, out, h0, h1, ho => by
    obtain ⟨m, hm⟩ : ∃ m, m = (k + d * (l.length + 2) + 1) + l.length + 1 := ⟨_, rfl⟩
    rw [show k + (d + 1) * (l.length + 2) + 1 = m + 1 by rw [Nat.succ_mul]; omega]
    simp only [spec_l11Linked.l1]
    rw [hm]
    rw [if_pos (by omega), linked_l2 hn hl hr i l.length (k + d * (l.length + 2) + 1) 0 out (by omega) (by omega) ho, w64 _ (by omega) (by omega)]
    rw [linked_l1 hn hl hr d k (i + 1) _ (by omega) (by omega) (by rw [stepL_length]; exact ho)]
    rfl
theorem linked_l0 {n : Int} {l : List Rn} (hn : n ≤ 1000) : ∀ (d k : Nat) (i : Int), 0 ≤ i → i + d = n → spec_l11Linked.l0 (k + d + 1) n l ((List.range i.toNat).map (fun i : Nat => (i : Int))) i = spec_l11Linked.l1 k n l (Gr.idx n) 0
  | 0, k, i, h0, h1 => by
    show spec_l11Linked.l0 (k + 1) n l _ i = _
    simp only [spec_l11Linked.l0]
    rw [if_neg (by omega), show i = n by omega]
    rfl
  | d + 1, k, i, h0, h1 => by
    obtain ⟨m, hm⟩ : ∃ m, m = k + d + 1 := ⟨_, rfl⟩
    rw [show k + (d + 1) + 1 = m + 1 by omega]
    simp only [spec_l11Linked.l0]
    rw [hm]
    rw [if_pos (by omega), if_pos (by simp; omega), w64 _ (by omega) (by omega)]
    have := linked_l0 (l := l) hn d k (i + 1) (by omega) (by omega)
    rw [show (i + 1).toNat = i.toNat + 1 by omega, List.range_succ, List.map_append, List.map_singleton, show ((i.toNat : Nat) : Int) = i by omega] at this
    exact this
theorem l11Linked_eq {n : Int} {l : List Rn} (h2 : 0 ≤ n) (h6 : n ≤ 6) (hl : l.length ≤ 1000) (hr : ∀ r ∈ l, okRun n r = true) (k : Nat) (hk : 8 * l.length + 40 ≤ k) : spec_l11Linked.f k n l = some (Gr.labs n (es l)) := by
  unfold spec_l11Linked.f
  have hb : n.toNat * (l.length + 2) ≤ 6 * (l.length + 2) := Nat.mul_le_mul_right _ (by omega)
  obtain ⟨k, rfl⟩ : ∃ m, k = (m + n.toNat * (l.length + 2) + 1) + n.toNat + 1 := ⟨k - (n.toNat * (l.length + 2) + 1 + n.toNat + 1), by omega⟩
  have a := linked_l0 (n := n) (l := l) (by omega) n.toNat (k + n.toNat * (l.length + 2) + 1) 0 (by omega) (by omega)
  rw [show (0 : Int).toNat = 0 from rfl] at a
  rw [show (([] : List Int)) = (List.range 0).map (fun i : Nat => (i : Int)) from rfl, a, linked_l1 (n := n) (l := l) (by omega) (by omega) hr n.toNat k 0 (Gr.idx n) (by omega) (by omega) (by unfold Gr.idx; simp; omega), Gr.rounds_idx (ok_ends hr)]
def linked (n : Int) (l : List Rn) : List Int := if valid n l = true then Gr.labs n (es l) else []
theorem linked_length (n : Int) (l : List Rn) : (linked n l).length ≤ 6 := by
  unfold linked
  split
  · rename_i h
    have := valid_iff.mp h
    rw [Gr.labs_length]; omega
  · simp
theorem sNetLinked_eq (n : Int) (l : List Rn) (hl : l.length ≤ 1000000000) (k : Nat) (hk : 2 * l.length + 200 ≤ k) : spec_NetLinked.f k n l = some (linked n l) := by
  unfold spec_NetLinked.f linked
  rw [sNetValid_eq n l hl k (by omega), Option.bind_some]
  by_cases hv : valid n l = true
  · have v := valid_iff.mp hv
    rw [if_pos hv, if_pos hv, l11Linked_eq (by omega) v.2.1 (by omega) v.2.2.2 k (by omega)]; rfl
  · rw [if_neg hv, if_neg hv]
def netWhole (n : Int) (l : List Rn) : Bool := valid n l && Gr.wholeB n (es l)
theorem labs_zero (n : Int) (es : List Gr.E) : (Gr.labs n es).all (fun x => decide (x = 0)) = Gr.wholeB n es := by
  unfold Gr.labs Gr.wholeB
  rw [List.all_map]
  rfl
theorem iWhole_l0 (L : List Int) (hL : L.length ≤ 1000000000) : ∀ (k : Nat) (i : Int), 0 ≤ i → i ≤ L.length → L.length < k + i → impl_NetWhole.l0 k L (L.length : Int) i = some ((L.drop i.toNat).all (fun x => decide (x = 0)))
  | 0, i, _, h1, h2 => by omega
  | k + 1, i, h0, h1, h2 => by
    simp only [impl_NetWhole.l0]
    by_cases c : i < (L.length : Int)
    · rw [if_pos c, if_pos h0, if_pos c, drop_int h0 c, List.all_cons]
      by_cases d : rd L i = 0
      · rw [if_pos d, w64 _ (by omega) (by omega), iWhole_l0 L hL k (i + 1) (by omega) (by omega) (by omega), decide_eq_true d]; rfl
      · rw [if_neg d, decide_eq_false d]; rfl
    · rw [if_neg c, drop_end (by omega)]; rfl
theorem sWhole_l0 (L : List Int) (hL : L.length ≤ 1000000000) : ∀ (k : Nat) (i : Int), 0 ≤ i → i ≤ L.length → L.length < k + i → spec_NetWhole.l0 k L i = some ((L.drop i.toNat).all (fun x => decide (x = 0)) && decide ((L.length : Int) > 0))
  | 0, i, _, h1, h2 => by omega
  | k + 1, i, h0, h1, h2 => by
    simp only [spec_NetWhole.l0]
    by_cases c : i < (L.length : Int)
    · rw [if_pos c, if_pos h0, drop_int h0 c, List.all_cons]
      by_cases d : rd L i = 0
      · rw [if_pos d, w64 _ (by omega) (by omega), sWhole_l0 L hL k (i + 1) (by omega) (by omega) (by omega), decide_eq_true d]; rfl
      · rw [if_neg d, decide_eq_false d]; rfl
    · rw [if_neg c, drop_end (by omega)]; rfl
theorem iNetWhole_eq (n : Int) (l : List Rn) (hl : l.length ≤ 1000000000) (k : Nat) (hk : 2 * l.length + 200 ≤ k) : impl_NetWhole.f k n l = some (netWhole n l) := by
  unfold impl_NetWhole.f netWhole
  rw [iNetValid_eq n l hl k (by omega), Option.bind_some]
  by_cases hv : valid n l = true
  · have v := valid_iff.mp hv
    rw [if_pos hv, hv, leastLinked_eq v.1 v.2.1 (by omega) v.2.2.2, Option.bind_some, iWhole_l0 _ (by rw [Gr.labs_length]; omega) k 0 (by omega) (by omega) (by rw [Gr.labs_length]; omega)]
    rw [show (0 : Int).toNat = 0 from rfl, List.drop_zero, labs_zero]; rfl
  · rw [if_neg hv]
    have : valid n l = false := by simpa using hv
    simp [this]
theorem sNetWhole_eq (n : Int) (l : List Rn) (hl : l.length ≤ 1000000000) (k : Nat) (hk : 2 * l.length + 200 ≤ k) : spec_NetWhole.f k n l = some (netWhole n l) := by
  unfold spec_NetWhole.f netWhole
  have hll := linked_length n l
  rw [sNetLinked_eq n l hl k hk, Option.bind_some, sWhole_l0 _ (by omega) k 0 (by omega) (by omega) (by omega)]
  rw [show (0 : Int).toNat = 0 from rfl, List.drop_zero]
  unfold linked
  by_cases hv : valid n l = true
  · have v := valid_iff.mp hv
    rw [if_pos hv, hv, labs_zero, Gr.labs_length, decide_eq_true (by omega), Bool.and_true]; rfl
  · rw [if_neg hv]
    have : valid n l = false := by simpa using hv
    simp [this]
def pick (l : List Rn) (t : List Int) : List Rn := t.map (fun i => rd_T36 l i)
theorem es_pick (l : List Rn) (t : List Int) : es (pick l t) = Gr.pk (es l) t := by
  rw [es_eq]
  unfold pick Gr.pk
  rw [List.map_map]
  apply List.map_congr_left
  intro k _
  rw [es_ed, rd_nat]
  rfl
theorem pick_length (l : List Rn) (t : List Int) : (pick l t).length = t.length := by unfold pick; simp
theorem pick_ok {n : Int} {l : List Rn} {t : List Int} (hr : ∀ r ∈ l, okRun n r = true) (ht : ∀ x ∈ t, 0 ≤ x ∧ x < l.length) : ∀ r ∈ pick l t, okRun n r = true := by
  intro r hm
  unfold pick at hm
  obtain ⟨x, hx, rfl⟩ := List.mem_map.mp hm
  exact hr _ (rdR_mem (ht x hx).1 (ht x hx).2)
theorem pick_valid {n : Int} {l : List Rn} {t : List Int} (hv : valid n l = true) (ht : ∀ x ∈ t, 0 ≤ x ∧ x < l.length) (hl : t.length ≤ 12) : valid n (pick l t) = true := by
  have v := valid_iff.mp hv
  exact valid_iff.mpr ⟨v.1, v.2.1, by rw [pick_length]; exact hl, pick_ok v.2.2.2 ht⟩
theorem pick_step {l : List Rn} {t : List Int} {i : Int} (h0 : 0 ≤ i) (h1 : i < t.length) (x : List Rn) : (x ++ [rd_T36 l (rd t i)]) ++ pick l (t.drop (i + 1).toNat) = x ++ pick l (t.drop i.toNat) := by
  rw [drop_int h0 h1]
  unfold pick
  simp
theorem int_mem {t : List Int} {i : Int} (h0 : 0 ≤ i) (h1 : i < t.length) : rd t i ∈ t := by
  unfold rd
  rw [List.getD_eq_getElem?_getD, List.getElem?_eq_getElem (by omega), Option.getD_some]
  exact List.getElem_mem _
theorem iPick_l0 (l : List Rn) (t : List Int) (ht : ∀ x ∈ t, 0 ≤ x ∧ x < l.length) (hb : t.length ≤ 1000000000) : ∀ (k : Nat) (i : Int) (x : List Rn), 0 ≤ i → i ≤ t.length → t.length < k + i → (x.length : Int) = i → impl_pick.l0 k l x t (t.length : Int) i = some (x ++ pick l (t.drop i.toNat))
  | 0, i, x, _, h1, h2, _ => by omega
  | k + 1, i, x, h0, h1, h2, h3 => by
    simp only [impl_pick.l0]
    by_cases c : i < (t.length : Int)
    · have := ht _ (int_mem h0 c)
      rw [if_pos c, if_pos h0, if_pos c, if_pos this.1, if_pos this.2, if_pos (by omega), w64 _ (by omega) (by omega)]
      show impl_pick.l0 k l (x ++ [rd_T36 l (rd t i)]) t (t.length : Int) (i + 1) = _
      rw [iPick_l0 l t ht hb k (i + 1) _ (by omega) (by omega) (by omega) (by simp; omega), pick_step h0 c]
    · rw [if_neg c, drop_end (by omega)]; simp [pick]
theorem sPick_l0 (l : List Rn) (t : List Int) (ht : ∀ x ∈ t, 0 ≤ x ∧ x < l.length) (hb : t.length ≤ 1000000000) : ∀ (k : Nat) (i : Int) (x : List Rn), 0 ≤ i → i ≤ t.length → t.length < k + i → (x.length : Int) = i → spec_l12Some.l0 k l t x i = some (x ++ pick l (t.drop i.toNat))
  | 0, i, x, _, h1, h2, _ => by omega
  | k + 1, i, x, h0, h1, h2, h3 => by
    simp only [spec_l12Some.l0]
    by_cases c : i < (t.length : Int)
    · have := ht _ (int_mem h0 c)
      rw [if_pos c, if_pos h0, if_pos this.1, if_pos this.2, if_pos (by omega), w64 _ (by omega) (by omega)]
      show spec_l12Some.l0 k l t (x ++ [rd_T36 l (rd t i)]) (i + 1) = _
      rw [sPick_l0 l t ht hb k (i + 1) _ (by omega) (by omega) (by omega) (by simp; omega), pick_step h0 c]
    · rw [if_neg c, drop_end (by omega)]; simp [pick]
theorem iPick_eq {l : List Rn} {t : List Int} (ht : ∀ x ∈ t, 0 ≤ x ∧ x < l.length) (hb : t.length ≤ 1000000000) (k : Nat) (hk : t.length + 2 ≤ k) : impl_pick.f k l t = some (pick l t) := by
  unfold impl_pick.f
  rw [if_pos (by omega), if_pos (by omega), iPick_l0 l t ht hb k 0 [] (by omega) (by omega) (by omega) rfl]
  simp
theorem sPick_eq {l : List Rn} {t : List Int} (ht : ∀ x ∈ t, 0 ≤ x ∧ x < l.length) (hb : t.length ≤ 1000000000) (k : Nat) (hk : t.length + 2 ≤ k) : spec_l12Some.f k l t = some (pick l t) := by
  unfold spec_l12Some.f
  rw [sPick_l0 l t ht hb k 0 [] (by omega) (by omega) (by omega) rfl]
  simp
def treeIs (n : Int) (l : List Rn) (t : List Int) : Bool := valid n l && decide ((t.length : Int) = n - 1) && Gr.asc (-1) l.length t && Gr.wholeB n (Gr.pk (es l) t)
theorem asc_in {N : Nat} {t : List Int} (h : Gr.asc (-1) N t = true) : ∀ x ∈ t, 0 ≤ x ∧ x < N := fun x hx => by
  have := Gr.asc_mem h x hx; omega
theorem sTree_l0 {n : Int} {l : List Rn} (hv : valid n l = true) (t : List Int) (hb : (t.length : Int) = n - 1) : ∀ (k : Nat) (i last : Int), 0 ≤ i → i ≤ t.length → 300 < k + i → -1 ≤ last → last ≤ l.length → (Gr.asc last l.length (t.drop i.toNat) = true → Gr.asc (-1) l.length t = true) → spec_TreeIs.l0 k n l t last i = some (Gr.asc last l.length (t.drop i.toNat) && Gr.wholeB n (Gr.pk (es l) t))
  | 0, i, last, h0, h1, h2, h3, h4, hw => by have := valid_iff.mp hv; omega
  | k + 1, i, last, h0, h1, h2, h3, h4, hw => by
    have v := valid_iff.mp hv
    simp only [spec_TreeIs.l0]
    by_cases c : i < (t.length : Int)
    · rw [if_pos c, if_pos h0, l6In_eq, Option.bind_some, w64 (last + 1) (by omega) (by omega), w64 _ (by omega) (by omega), w64 (i + 1) (by omega) (by omega)]
      rw [drop_int h0 c] at hw ⊢
      simp only [Gr.asc] at hw ⊢
      by_cases d : last < rd t i ∧ rd t i < (l.length : Int)
      · rw [if_pos (by simp; omega), decide_eq_true d.1, decide_eq_true d.2, Bool.true_and, Bool.true_and]
        rw [decide_eq_true d.1, decide_eq_true d.2, Bool.true_and, Bool.true_and] at hw
        exact sTree_l0 hv t hb k (i + 1) _ (by omega) (by omega) (by omega) (by omega) (by omega) hw
      · rw [if_neg (by simp; omega)]
        congr 1; symm
        rw [Bool.eq_false_iff]
        intro z
        simp only [Bool.and_eq_true, decide_eq_true_eq] at z
        exact d ⟨z.1.1.1, z.1.1.2⟩
    · rw [drop_end (by omega)] at hw ⊢
      have hin := asc_in (hw rfl)
      rw [if_neg c, sPick_eq hin (by omega) k (by omega), Option.bind_some, sNetWhole_eq _ _ (by rw [pick_length]; omega) k (by rw [pick_length]; omega)]
      unfold netWhole
      rw [pick_valid hv hin (by omega), es_pick]
      rfl
theorem sTreeIs_eq (n : Int) (l : List Rn) (t : List Int) (hl : l.length ≤ 1000000000) (hb : t.length ≤ 1000000000) (k : Nat) (hk : 2 * l.length + 1000 ≤ k) : spec_TreeIs.f k n l t = some (treeIs n l t) := by
  unfold spec_TreeIs.f treeIs
  rw [sNetValid_eq n l hl k (by omega), Option.bind_some]
  obtain ⟨k, rfl⟩ : ∃ m, k = m + 1 := ⟨k - 1, by omega⟩
  simp only [spec_TreeIs.j0]
  by_cases hv : valid n l = true
  · have v := valid_iff.mp hv
    rw [if_pos hv, hv, w64 _ (by omega) (by omega)]
    by_cases hn : (t.length : Int) = n - 1
    · rw [if_neg (by simp [hn]), sTree_l0 hv t hn k 0 (-1) (by omega) (by omega) (by omega) (by omega) (by omega) (fun h => by simpa using h), decide_eq_true hn]
      simp
    · rw [if_pos (by simpa using hn), decide_eq_false hn]
      simp
  · rw [if_neg hv]
    have : valid n l = false := by simpa using hv
    simp [this]
def wt (l : List Rn) (k : Int) : Int := (rd_T36 l k).f3
def treeWeight (n : Int) (l : List Rn) : Int := if valid n l = true then Gr.wsum (wt l) (Gr.trees n (es l)) else -1
theorem trees_in {n : Int} {l : List Rn} {t : List Int} (h : t ∈ Gr.trees n (es l)) : t.length = (n - 1).toNat ∧ ∀ k ∈ t, 0 ≤ k ∧ k < l.length := by
  have s := Gr.trees_spec h
  refine ⟨s.1, ?_⟩
  have := s.2.1
  rw [es_length] at this
  exact asc_in this
def w1 (r : Rn) : Rn := ⟨r.f0, r.f1, r.f2, 1⟩
def w2 (r : Rn) : Rn := ⟨r.f0, r.f1, r.f2, 2 * r.f3⟩
theorem tw_eq {n : Int} {l : List Rn} (hv : valid n l = true) {t : List Int} (ht : ∀ x ∈ t, 0 ≤ x ∧ x < l.length) (hb : t.length ≤ 12) (k : Nat) (hk : 1000 ≤ k) : tw k n l t = some (Gr.wholeB n (Gr.pk (es l) t)) := by
  have v := valid_iff.mp hv
  unfold tw
  rw [iPick_eq ht (by omega) k (by omega), Option.bind_some, iNetWhole_eq _ _ (by rw [pick_length]; omega) k (by rw [pick_length]; omega)]
  unfold netWhole
  rw [pick_valid hv ht (by omega), es_pick]
  rfl
theorem keeps_eq {n : Int} {l : List Rn} {k : Nat} {p : List Int → Bool} : ∀ {xs : List (List Int)}, (∀ x ∈ xs, tw k n l x = some (p x)) → keeps k n l xs = some (xs.filter p)
  | [], _ => rfl
  | x :: xs, h => by
    unfold keeps
    rw [h x (by simp), Option.bind_some, keeps_eq (fun y hy => h y (List.mem_cons_of_mem _ hy)), Option.bind_some, List.filter_cons]
theorem subs_in {n : Int} {l : List Rn} (hv : valid n l = true) {t : List Int} (h : t ∈ subs n l.length) : (∀ x ∈ t, 0 ≤ x ∧ x < (l.length : Int)) ∧ t.length ≤ 12 ∧ (t.length : Int) = n - 1 ∧ Gr.asc (-1) l.length t = true := by
  have v := valid_iff.mp hv
  have i := sub_in h
  refine ⟨i.2, by omega, by omega, Gr.sub_asc h (by omega) (by omega)⟩
theorem trees_eq {n : Int} {l : List Rn} : Gr.trees n (es l) = (subs n l.length).filter (fun t => Gr.wholeB n (Gr.pk (es l) t)) := by
  unfold Gr.trees subs
  rw [es_length]
theorem keeps_trees {n : Int} {l : List Rn} (hv : valid n l = true) (k : Nat) (hk : 1000 ≤ k) : keeps k n l (subs n l.length) = some (Gr.trees n (es l)) := by
  rw [trees_eq]
  exact keeps_eq (fun x hx => tw_eq hv (subs_in hv hx).1 (subs_in hv hx).2.1 k hk)
theorem pow9 : ∀ (m : Nat), (9 : Int) ^ m = ((9 ^ m : Nat) : Int)
  | 0 => rfl
  | m + 1 => by rw [Int.pow_succ, Nat.pow_succ, pow9 m]; omega
theorem pow9_mono {a b : Nat} (h : a ≤ b) : (9 : Int) ^ a ≤ 9 ^ b := by
  have := Nat.pow_le_pow_right (n := 9) (by omega) h
  rw [pow9, pow9]
  omega
theorem prod_eq {l : List Rn} : ∀ (t : List Int) (p : Int), (∀ x ∈ t, 1 ≤ wt l x ∧ wt l x ≤ 9) → 0 ≤ p → p * 9 ^ t.length ≤ 1000000000000 → Hand.prod l p t = p * Gr.prod (wt l) t
  | [], p, _, _, _ => by
    show p = p * 1
    omega
  | x :: t, p, h, h0, h1 => by
    have hx := h x (by simp)
    have ht : ∀ y ∈ t, 1 ≤ wt l y ∧ wt l y ≤ 9 := fun y hy => h y (List.mem_cons_of_mem _ hy)
    have e9 : (1 : Int) ≤ 9 ^ t.length := pow9_mono (a := 0) (by omega)
    have a0 : 0 ≤ p * wt l x := Int.mul_nonneg h0 (by omega)
    have a1 : p * wt l x ≤ p * 9 := Int.mul_le_mul_of_nonneg_left hx.2 h0
    have a2 : p * wt l x * 9 ^ t.length ≤ p * 9 * 9 ^ t.length := Int.mul_le_mul_of_nonneg_right a1 (by omega)
    have a3 : p * 9 * 9 ^ t.length = p * 9 ^ (x :: t).length := by rw [List.length_cons, Int.pow_succ, Int.mul_assoc, Int.mul_comm 9 (9 ^ t.length)]
    have a4 : p * wt l x * 9 ^ t.length ≤ 1000000000000 := by omega
    have a5 : p * wt l x ≤ p * wt l x * 9 ^ t.length := by
      have := Int.mul_le_mul_of_nonneg_left e9 a0
      omega
    show Hand.prod l (wrap64 (p * wt l x)) t = _
    rw [w64 _ (by omega) (by omega), prod_eq t _ ht a0 a4, Gr.prod_cons, Int.mul_assoc]
theorem wsum_eq {l : List Rn} : ∀ (ts : List (List Int)) (s : Int), (∀ t ∈ ts, t.length ≤ 5 ∧ ∀ x ∈ t, 1 ≤ wt l x ∧ wt l x ≤ 9) → 0 ≤ s → s + ts.length * 59049 ≤ 1000000000000 → Hand.wsum l s ts = s + Gr.wsum (wt l) ts
  | [], s, _, _, _ => by
    show s = s + 0
    omega
  | t :: ts, s, h, h0, h1 => by
    have ht := h t (by simp)
    have p9 : (9 : Int) ^ t.length ≤ 9 ^ 5 := pow9_mono ht.1
    have pb := Gr.prod_bound (W := wt l) (B := 9) (by omega) ht.2
    have e5 : (9 : Int) ^ 5 = 59049 := by decide
    rw [List.length_cons] at h1
    show Hand.wsum l (wrap64 (s + Hand.prod l 1 t)) ts = _
    rw [prod_eq t 1 ht.2 (by omega) (by omega), Int.one_mul, w64 _ (by omega) (by omega), wsum_eq ts _ (fun y hy => h y (List.mem_cons_of_mem _ hy)) (by omega) (by omega), Gr.wsum_cons]
    omega
theorem wsum_trees {n : Int} {l : List Rn} (hv : valid n l = true) : Hand.wsum l 0 (Gr.trees n (es l)) = Gr.wsum (wt l) (Gr.trees n (es l)) := by
  have v := valid_iff.mp hv
  have c := Gr.trees_count n (es l)
  rw [es_length] at c
  have : (2 : Nat) ^ l.length ≤ 2 ^ 12 := Nat.pow_le_pow_right (by omega) v.2.2.1
  rw [wsum_eq _ 0 (fun t ht => ⟨by have := (trees_in ht).1; omega, fun x hx => ?_⟩) (by omega) (by omega)]
  · omega
  · have r := (trees_in ht).2 x hx
    exact (okRun_iff.mp (v.2.2.2 _ (rdR_mem r.1 r.2))).2.2.2.2
theorem iTreeWeight_eq (n : Int) (l : List Rn) (hl : l.length ≤ 1000000000) (k : Nat) (hk : l.length + 2000 ≤ k) : impl_TreeWeight.f k n l = some (treeWeight n l) := by
  unfold impl_TreeWeight.f treeWeight
  rw [iNetValid_eq n l hl k (by omega), Option.bind_some]
  by_cases hv : valid n l = true
  · have v := valid_iff.mp hv
    rw [if_pos hv, if_pos hv, if_pos ⟨by omega, by omega, by omega⟩, keeps_trees hv k (by omega), Option.bind_some, wsum_trees hv]
  · rw [if_neg hv, if_neg hv]
/-- the trees of a net that begin with b and go on from the run i -/
def begun (n : Int) (l : List Rn) (b : List Int) (s : Nat) (i : Int) (d : Nat) : List (List Int) := ((Gr.sub s (Gr.upto i d)).map (b ++ ·)).filter (treeIs n l)
theorem begun_length (n : Int) (l : List Rn) (b : List Int) (s : Nat) (i : Int) (d : Nat) (hd : d ≤ 12) : (begun n l b s i d).length ≤ 4096 := by
  unfold begun
  refine Nat.le_trans (List.length_filter_le _ _) ?_
  rw [List.length_map]
  refine Nat.le_trans (Gr.sub_count _ _) ?_
  rw [Gr.upto_length]
  exact Nat.pow_le_pow_right (n := 2) (by omega) hd
theorem begun_next (n : Int) (l : List Rn) (b : List Int) (s : Nat) (i : Int) (d : Nat) : begun n l b (s + 1) i (d + 1) = begun n l (b ++ [i]) s (i + 1) d ++ begun n l b (s + 1) (i + 1) d := by
  unfold begun
  rw [show Gr.upto i (d + 1) = i :: Gr.upto (i + 1) d from rfl, show Gr.sub (s + 1) (i :: Gr.upto (i + 1) d) = (Gr.sub s (Gr.upto (i + 1) d)).map (i :: ·) ++ Gr.sub (s + 1) (Gr.upto (i + 1) d) from rfl, List.map_append, List.filter_append, List.map_map]
  congr 3
  funext x
  simp
theorem all_f {n : Int} {l : List Rn} (hv : valid n l = true) : ∀ (s : Nat) (b : List Int) (i : Int) (d k : Nat), (b.length : Int) + s = n - 1 → 0 ≤ i → i + d = l.length → 2000 + 100 * s ≤ k → spec_l12All.f k n l b i = some (begun n l b s i d) := by
  have v := valid_iff.mp hv
  intro s
  induction s with
  | zero =>
    intro b i d k hb h0 h1 hk
    obtain ⟨k, rfl⟩ : ∃ m, k = m + 1 := ⟨k - 1, by omega⟩
    have e : begun n l b 0 i d = [b].filter (treeIs n l) := by
      unfold begun
      cases Gr.upto i d <;> simp [Gr.sub]
    simp only [spec_l12All.f]
    rw [w64 _ (by omega) (by omega), if_pos (by omega), sTreeIs_eq _ _ _ (by omega) (by omega) k (by omega), Option.bind_some, e]
    by_cases ht : treeIs n l b = true
    · rw [if_pos ht, Option.bind_some, if_pos (by simp; omega), List.filter_cons, if_pos ht]
      rfl
    · rw [if_neg ht, List.filter_cons, if_neg ht]
      rfl
  | succ s ih =>
    have loop : ∀ (d k : Nat) (i : Int) (b : List Int) (x : List (List Int)), (b.length : Int) + s + 1 = n - 1 → 0 ≤ i → i + d = l.length → x.length + 4096 * d ≤ 100000 → 2000 + 100 * s + d + 1 ≤ k → spec_l12All.l0 k n l b x i = some (x ++ begun n l b (s + 1) i d) := by
      intro d
      induction d with
      | zero =>
        intro k i b x hb h0 h1 hx hk
        obtain ⟨k, rfl⟩ : ∃ m, k = m + 1 := ⟨k - 1, by omega⟩
        simp only [spec_l12All.l0]
        rw [if_neg (by omega)]
        unfold begun
        simp [Gr.upto, Gr.sub]
      | succ d ihd =>
        intro k i b x hb h0 h1 hx hk
        obtain ⟨k, rfl⟩ : ∃ m, k = m + 1 := ⟨k - 1, by omega⟩
        have bl := begun_length n l (b ++ [i]) s (i + 1) d (by omega)
        simp only [spec_l12All.l0, List.nil_append, Option.bind_some]
        rw [if_pos (by omega), if_pos (by simp; omega), if_pos (by omega), w64 _ (by omega) (by omega), ih (b ++ [i]) (i + 1) d k (by simp; omega) (by omega) (by omega) (by omega), Option.bind_some, if_pos (by omega),
          ihd k (i + 1) b _ hb (by omega) (by omega) (by rw [List.length_append]; omega) (by omega), begun_next, List.append_assoc]
    intro b i d k hb h0 h1 hk
    obtain ⟨k, rfl⟩ : ∃ m, k = m + 1 := ⟨k - 1, by omega⟩
    simp only [spec_l12All.f]
    rw [w64 _ (by omega) (by omega), if_neg (by omega), loop d k i b [] (by omega) h0 h1 (by simp; omega) (by omega)]
    rfl
theorem all_trees {n : Int} {l : List Rn} (hv : valid n l = true) (k : Nat) (hk : 4000 ≤ k) : spec_l12All.f k n l [] 0 = some (Gr.trees n (es l)) := by
  have v := valid_iff.mp hv
  rw [all_f hv (n - 1).toNat [] 0 l.length k (by simp; omega) (by omega) (by omega) (by omega), trees_eq]
  unfold begun
  congr 1
  rw [show (fun x : List Int => ([] : List Int) ++ x) = id from rfl, List.map_id]
  refine List.filter_congr (fun t ht => ?_)
  have i := subs_in hv ht
  unfold treeIs
  rw [hv, decide_eq_true i.2.2.1, i.2.2.2]
  rfl
theorem drop_list {ts : List (List Int)} {i : Int} (h0 : 0 ≤ i) (h1 : i < ts.length) : ts.drop i.toNat = rd_L4 ts i :: ts.drop (i + 1).toNat := by
  have e : (i + 1).toNat = i.toNat + 1 := by omega
  have hi : i.toNat < ts.length := by omega
  rw [e, List.drop_eq_getElem_cons hi]
  unfold rd_L4
  rw [List.getD_eq_getElem?_getD, List.getElem?_eq_getElem hi]
  rfl
theorem sWeight_l1 {l : List Rn} {ts : List (List Int)} (C : Nat) {s j : Int} (j0 : 0 ≤ j) (j1 : j < ts.length) (ht : ∀ x ∈ rd_L4 ts j, 0 ≤ x ∧ x < l.length) (hb : (rd_L4 ts j).length ≤ 5) (hj : j ≤ 1000000)
    {r : Int} (H : ∀ k, C ≤ k → spec_TreeWeight.l0 k l (wrap64 (s + Hand.prod l 1 (rd_L4 ts j))) ts (j + 1) = some r) : ∀ (d k : Nat) (p i : Int), 0 ≤ i → i + d = (rd_L4 ts j).length → C + d + 1 ≤ k → Hand.prod l p ((rd_L4 ts j).drop i.toNat) = Hand.prod l 1 (rd_L4 ts j) → spec_TreeWeight.l1 k l s ts j p i = some r := by
  intro d
  induction d with
  | zero =>
    intro k p i h0 h1 hk hp
    obtain ⟨k, rfl⟩ : ∃ m, k = m + 1 := ⟨k - 1, by omega⟩
    rw [drop_end (by omega)] at hp
    simp only [spec_TreeWeight.l1]
    rw [if_pos j0, if_pos j1, if_neg (by omega), w64 (j + 1) (by omega) (by omega)]
    have := H k (by omega)
    rw [← hp] at this
    exact this
  | succ d ih =>
    intro k p i h0 h1 hk hp
    obtain ⟨k, rfl⟩ : ∃ m, k = m + 1 := ⟨k - 1, by omega⟩
    have hx := ht _ (int_mem h0 (by omega))
    rw [drop_int h0 (by omega)] at hp
    simp only [spec_TreeWeight.l1]
    rw [if_pos j0, if_pos j1, if_pos (by omega), if_pos h0, if_pos hx.1, if_pos hx.2, w64 (i + 1) (by omega) (by omega)]
    exact ih k _ (i + 1) (by omega) (by omega) (by omega) hp
theorem sWeight_l0 {l : List Rn} {ts : List (List Int)} (ht : ∀ t ∈ ts, t.length ≤ 5 ∧ ∀ x ∈ t, 0 ≤ x ∧ x < (l.length : Int)) (hb : ts.length ≤ 4096) : ∀ (d k : Nat) (s j : Int), 0 ≤ j → j + d = ts.length → 10 * d + 10 ≤ k → spec_TreeWeight.l0 k l s ts j = some (Hand.wsum l s (ts.drop j.toNat)) := by
  intro d
  induction d with
  | zero =>
    intro k s j h0 h1 hk
    obtain ⟨k, rfl⟩ : ∃ m, k = m + 1 := ⟨k - 1, by omega⟩
    simp only [spec_TreeWeight.l0]
    rw [if_neg (by omega), drop_end (by omega)]
    rfl
  | succ d ih =>
    intro k s j h0 h1 hk
    obtain ⟨k, rfl⟩ : ∃ m, k = m + 1 := ⟨k - 1, by omega⟩
    have e := drop_list h0 (show j < ts.length by omega)
    have hm : rd_L4 ts j ∈ ts := List.mem_of_mem_drop (by rw [e]; simp)
    have h2 := ht _ hm
    simp only [spec_TreeWeight.l0]
    rw [if_pos (by omega), e]
    exact sWeight_l1 (10 * d + 10) h0 (by omega) h2.2 h2.1 (by omega) (fun k hk => ih k _ (j + 1) (by omega) (by omega) hk) (rd_L4 ts j).length k 1 0 (by omega) (by omega) (by omega) rfl
theorem sTreeWeight_eq (n : Int) (l : List Rn) (hl : l.length ≤ 1000000000) (k : Nat) (hk : 2 * l.length + 50000 ≤ k) : spec_TreeWeight.f k n l = some (treeWeight n l) := by
  unfold spec_TreeWeight.f treeWeight
  rw [sNetValid_eq n l hl k (by omega), Option.bind_some]
  by_cases hv : valid n l = true
  · have v := valid_iff.mp hv
    have c := Gr.trees_count n (es l)
    rw [es_length] at c
    have c2 : (2 : Nat) ^ l.length ≤ 2 ^ 12 := Nat.pow_le_pow_right (by omega) v.2.2.1
    rw [if_pos hv, if_pos hv, all_trees hv k (by omega), Option.bind_some, sWeight_l0 (fun t ht => ⟨by have := (trees_in ht).1; omega, (trees_in ht).2⟩) (by omega) (Gr.trees n (es l)).length k 0 0 (by omega) (by omega) (by omega)]
    exact congrArg some (wsum_trees hv)
  · rw [if_neg hv, if_neg hv]
theorem FnExactTreeWeight : ∀ (a0 : Int) (l1 : List Ln), (Lit.int .i64 a0).wf = true → l1.length ≤ maxLen → l1.length * 32 ≤ 140737488351232 → (∀ r ∈ l1, Runs.wfRun r) → ∃ k, laws_FnExactTreeWeight.f k a0 l1 = some true := by
  intro a0 l1 _ hm _ _
  refine ⟨9000000 + 3, ?_⟩
  unfold laws_FnExactTreeWeight.f
  rw [szRunS_eq l1 (by unfold maxLen at hm; omega), Option.bind_some]
  by_cases h : (l1.length : Int) > 1048576
  · rw [if_pos h]; rfl
  · rw [if_neg h, if_neg (by omega)]
    rw [toRunS_eq l1 (by omega) _ (by omega)]
    simp only [Option.bind_some]
    rw [sTreeWeight_eq _ _ (by simp; omega) _ (by simp; omega), iTreeWeight_eq _ _ (by simp; omega) _ (by simp; omega)]
    simp only [Option.bind_some, bne_self_eq_false, Bool.false_eq_true, if_false, if_true]
    rw [eqRunS_eq _ (by simp; omega) _ (by simp; omega)]
    simp
end Go.Proofs.Ytbnndmkkmceenaa.Pure
