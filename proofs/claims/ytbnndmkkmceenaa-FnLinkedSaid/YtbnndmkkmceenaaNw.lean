/- What is linked, whole, and how many loops there are, as both sides come to it. -/
import Derived.Test.YtbnndmkkmceenaaNr
import Derived.Test.YtbnndmkkmceenaaG1
import Derived.Test.YtbnndmkkmceenaaP0x29
import Derived.Test.YtbnndmkkmceenaaP1x1
namespace Go.Proofs.Ytbnndmkkmceenaa.Pure
set_option linter.unusedVariables false
set_option linter.unusedSimpArgs false
open Go.RowKit Go.Proofs.Ytbnndmkkmceenaa.P0 Go.Proofs.Ytbnndmkkmceenaa.P1 Go.Proofs.Ytbnndmkkmceenaa.Hand Go.Proofs.YtbnndmkkmceenaaW.PrintWords Go.Proofs.YtbnndmkkmceenaaW.PrintLast
theorem rd_gt (L : List Int) (i : Int) : rd L i = Gr.gt L i := rfl
theorem mn_min (a b : Int) : mn a b = min a b := by unfold mn; split <;> omega
theorem ok_ends {n : Int} {l : List Rn} (hr : ∀ r ∈ l, okRun n r = true) : Gr.Ends n (es l) := by
  intro e he
  rw [es_eq] at he
  obtain ⟨r, hm, rfl⟩ := List.mem_map.mp he
  have := okRun_iff.mp (hr r hm)
  exact ⟨this.1.1, this.1.2, this.2.1.1, this.2.1.2, this.2.2.1⟩
theorem leastLinked_eq {n : Int} {l : List Rn} (h2 : 2 ≤ n) (h6 : n ≤ 6) (hl : l.length ≤ 1000) (hr : ∀ r ∈ l, okRun n r = true) : impl_leastLinked.f n l = some (Gr.labs n (es l)) := by
  unfold impl_leastLinked.f
  have hw : l.all wfEnds = true := by
    rw [List.all_eq_true]
    intro r hm
    have := okRun_iff.mp (hr r hm)
    unfold wfEnds
    rw [WalkArith.wf_i64 (n := r.f0) (by omega), WalkArith.wf_i64 (n := r.f1) (by omega)]
    rfl
  rw [if_pos ⟨h2, h6, hl, hw⟩]
  have := Gr.least_labs (ok_ends hr) (by omega) (by omega) (k := 100) (by omega)
  unfold Gr.least at this
  rw [if_pos (by omega)] at this
  rw [← this, es_eq]
  rfl
theorem es_drop {l : List Rn} {i : Int} (h0 : 0 ≤ i) (h1 : i < l.length) : (es l).drop i.toNat = ((rd_T36 l i).f0, (rd_T36 l i).f1) :: (es l).drop (i + 1).toNat := by
  rw [es_eq, ← List.map_drop, drop_rd h0 h1, ← List.map_drop]; rfl
theorem linked_l2 {n : Int} {l : List Rn} (hn : n ≤ 1000) (hl : l.length ≤ 1000000000) (hr : ∀ r ∈ l, okRun n r = true) (x7 : Int) : ∀ (d k : Nat) (i : Int) (out : List Int), 0 ≤ i → i + d = l.length → (out.length : Int) = n → spec_l11Linked.l2 (k + d + 1) n l out x7 i = spec_l11Linked.l1 k n l (((es l).drop i.toNat).foldl Gr.stepL out) (wrap64 (x7 + 1))
  | 0, k, i, out, h0, h1, _ => by
    show spec_l11Linked.l2 (k + 1) n l out x7 i = _
    simp only [spec_l11Linked.l2]
    rw [if_neg (by omega), List.drop_eq_nil_of_le (by rw [es_length]; omega)]
    rfl
  | d + 1, k, i, out, h0, h1, ho => by
    obtain ⟨m, hm⟩ : ∃ m, m = k + d + 1 := ⟨_, rfl⟩
    rw [show k + (d + 1) + 1 = m + 1 by omega]
    simp only [spec_l11Linked.l2]
    rw [hm]
    have ok := okRun_iff.mp (hr _ (rdR_mem h0 (by omega)))
    rw [if_pos (by omega), if_pos h0, if_pos ok.1.1, if_pos (by omega), if_pos ok.2.1.1, if_pos (by omega), w64 (i + 1) (by omega) (by omega), es_drop h0 (by omega), List.foldl_cons]
    rw [mn_min, rd_gt, rd_gt]
    exact linked_l2 hn hl hr x7 d k (i + 1) (Gr.stepL out ((rd_T36 l i).f0, (rd_T36 l i).f1)) (by omega) (by omega) (by unfold Gr.stepL; simpa using ho)
theorem stepL_length (fs : List Gr.E) : ∀ (out : List Int), (fs.foldl Gr.stepL out).length = out.length := by
  induction fs with
  | nil => intro out; rfl
  | cons f fs ih => intro out; rw [List.foldl_cons, ih]; unfold Gr.stepL; simp
theorem linked_l1 {n : Int} {l : List Rn} (hn : n ≤ 1000) (hl : l.length ≤ 1000000000) (hr : ∀ r ∈ l, okRun n r = true) : ∀ (d k : Nat) (i : Int) (out : List Int), 0 ≤ i → i + d = n → (out.length : Int) = n → spec_l11Linked.l1 (k + d * (l.length + 2) + 1) n l out i = some (Gr.rounds (es l) d out)
  | 0, k, i, out, h0, h1, _ => by
    rw [show k + 0 * (l.length + 2) + 1 = k + 1 by omega]
    simp only [spec_l11Linked.l1]
    rw [if_neg (by omega)]
    rfl
  | d + 1, k, i, out, h0, h1, ho => by
    obtain ⟨m, hm⟩ : ∃ m, m = (k + d * (l.length + 2) + 1) + l.length + 1 := ⟨_, rfl⟩
    rw [show k + (d + 1) * (l.length + 2) + 1 = m + 1 by rw [Nat.succ_mul]; omega]
    simp only [spec_l11Linked.l1]
    rw [hm]
    rw [if_pos (by omega), linked_l2 hn hl hr i l.length (k + d * (l.length + 2) + 1) 0 out (by omega) (by omega) ho, w64 _ (by omega) (by omega)]
    rw [linked_l1 hn hl hr d k (i + 1) _ (by omega) (by omega) (by rw [stepL_length]; exact ho)]
    rfl
theorem linked_l0 {n : Int} {l : List Rn} (hn : n ≤ 1000) : ∀ (d k : Nat) (i : Int), 0 ≤ i → i + d = n → spec_l11Linked.l0 (k + d + 1) n l ((List.range i.toNat).map (fun i : Nat => (i : Int))) i = spec_l11Linked.l1 k n l (Gr.idx n) 0
  | 0, k, i, h0, h1 => by
    show spec_l11Linked.l0 (k + 1) n l _ i = _
    simp only [spec_l11Linked.l0]
    rw [if_neg (by omega), show i = n by omega]
    rfl
  | d + 1, k, i, h0, h1 => by
    obtain ⟨m, hm⟩ : ∃ m, m = k + d + 1 := ⟨_, rfl⟩
    rw [show k + (d + 1) + 1 = m + 1 by omega]
    simp only [spec_l11Linked.l0]
    rw [hm]
    rw [if_pos (by omega), if_pos (by simp; omega), w64 _ (by omega) (by omega)]
    have := linked_l0 (l := l) hn d k (i + 1) (by omega) (by omega)
    rw [show (i + 1).toNat = i.toNat + 1 by omega, List.range_succ, List.map_append, List.map_singleton, show ((i.toNat : Nat) : Int) = i by omega] at this
    exact this
theorem l11Linked_eq {n : Int} {l : List Rn} (h2 : 0 ≤ n) (h6 : n ≤ 6) (hl : l.length ≤ 1000) (hr : ∀ r ∈ l, okRun n r = true) (k : Nat) (hk : 8 * l.length + 40 ≤ k) : spec_l11Linked.f k n l = some (Gr.labs n (es l)) := by
  unfold spec_l11Linked.f
  have hb : n.toNat * (l.length + 2) ≤ 6 * (l.length + 2) := Nat.mul_le_mul_right _ (by omega)
  obtain ⟨k, rfl⟩ : ∃ m, k = (m + n.toNat * (l.length + 2) + 1) + n.toNat + 1 := ⟨k - (n.toNat * (l.length + 2) + 1 + n.toNat + 1), by omega⟩
  have a := linked_l0 (n := n) (l := l) (by omega) n.toNat (k + n.toNat * (l.length + 2) + 1) 0 (by omega) (by omega)
  rw [show (0 : Int).toNat = 0 from rfl] at a
  rw [show (([] : List Int)) = (List.range 0).map (fun i : Nat => (i : Int)) from rfl, a, linked_l1 (n := n) (l := l) (by omega) (by omega) hr n.toNat k 0 (Gr.idx n) (by omega) (by omega) (by unfold Gr.idx; simp; omega), Gr.rounds_idx (ok_ends hr)]
def linked (n : Int) (l : List Rn) : List Int := if valid n l = true then Gr.labs n (es l) else []
theorem linked_length (n : Int) (l : List Rn) : (linked n l).length ≤ 6 := by
  unfold linked
  split
  · rename_i h
    have := valid_iff.mp h
    rw [Gr.labs_length]; omega
  · simp
theorem iNetLinked_eq (n : Int) (l : List Rn) (hl : l.length ≤ 1000000000) (k : Nat) (hk : 2 * l.length + 2 ≤ k) : impl_NetLinked.f k n l = some (linked n l) := by
  unfold impl_NetLinked.f linked
  rw [iNetValid_eq n l hl k (by omega), Option.bind_some]
  by_cases hv : valid n l = true
  · have v := valid_iff.mp hv
    rw [if_pos hv, if_pos hv, leastLinked_eq v.1 v.2.1 (by omega) v.2.2.2]; rfl
  · rw [if_neg hv, if_neg hv]
theorem sNetLinked_eq (n : Int) (l : List Rn) (hl : l.length ≤ 1000000000) (k : Nat) (hk : 2 * l.length + 200 ≤ k) : spec_NetLinked.f k n l = some (linked n l) := by
  unfold spec_NetLinked.f linked
  rw [sNetValid_eq n l hl k (by omega), Option.bind_some]
  by_cases hv : valid n l = true
  · have v := valid_iff.mp hv
    rw [if_pos hv, if_pos hv, l11Linked_eq (by omega) v.2.1 (by omega) v.2.2.2 k (by omega)]; rfl
  · rw [if_neg hv, if_neg hv]
def netWhole (n : Int) (l : List Rn) : Bool := valid n l && Gr.wholeB n (es l)
theorem netWhole_iff {n : Int} {l : List Rn} : netWhole n l = true ↔ valid n l = true ∧ Gr.Whole n (es l) := by
  unfold netWhole; rw [Bool.and_eq_true, Gr.wholeB_iff]
theorem labs_zero (n : Int) (es : List Gr.E) : (Gr.labs n es).all (fun x => decide (x = 0)) = Gr.wholeB n es := by
  unfold Gr.labs Gr.wholeB
  rw [List.all_map]
  rfl
theorem iWhole_l0 (L : List Int) (hL : L.length ≤ 1000000000) : ∀ (k : Nat) (i : Int), 0 ≤ i → i ≤ L.length → L.length < k + i → impl_NetWhole.l0 k L (L.length : Int) i = some ((L.drop i.toNat).all (fun x => decide (x = 0)))
  | 0, i, _, h1, h2 => by omega
  | k + 1, i, h0, h1, h2 => by
    simp only [impl_NetWhole.l0]
    by_cases c : i < (L.length : Int)
    · rw [if_pos c, if_pos h0, if_pos c, drop_int h0 c, List.all_cons]
      by_cases d : rd L i = 0
      · rw [if_pos d, w64 _ (by omega) (by omega), iWhole_l0 L hL k (i + 1) (by omega) (by omega) (by omega), decide_eq_true d]; rfl
      · rw [if_neg d, decide_eq_false d]; rfl
    · rw [if_neg c, drop_end (by omega)]; rfl
theorem sWhole_l0 (L : List Int) (hL : L.length ≤ 1000000000) : ∀ (k : Nat) (i : Int), 0 ≤ i → i ≤ L.length → L.length < k + i → spec_NetWhole.l0 k L i = some ((L.drop i.toNat).all (fun x => decide (x = 0)) && decide ((L.length : Int) > 0))
  | 0, i, _, h1, h2 => by omega
  | k + 1, i, h0, h1, h2 => by
    simp only [spec_NetWhole.l0]
    by_cases c : i < (L.length : Int)
    · rw [if_pos c, if_pos h0, drop_int h0 c, List.all_cons]
      by_cases d : rd L i = 0
      · rw [if_pos d, w64 _ (by omega) (by omega), sWhole_l0 L hL k (i + 1) (by omega) (by omega) (by omega), decide_eq_true d]; rfl
      · rw [if_neg d, decide_eq_false d]; rfl
    · rw [if_neg c, drop_end (by omega)]; rfl
theorem iNetWhole_eq (n : Int) (l : List Rn) (hl : l.length ≤ 1000000000) (k : Nat) (hk : 2 * l.length + 200 ≤ k) : impl_NetWhole.f k n l = some (netWhole n l) := by
  unfold impl_NetWhole.f netWhole
  rw [iNetValid_eq n l hl k (by omega), Option.bind_some]
  by_cases hv : valid n l = true
  · have v := valid_iff.mp hv
    rw [if_pos hv, hv, leastLinked_eq v.1 v.2.1 (by omega) v.2.2.2, Option.bind_some, iWhole_l0 _ (by rw [Gr.labs_length]; omega) k 0 (by omega) (by omega) (by rw [Gr.labs_length]; omega)]
    rw [show (0 : Int).toNat = 0 from rfl, List.drop_zero, labs_zero]; rfl
  · rw [if_neg hv]
    have : valid n l = false := by simpa using hv
    simp [this]
theorem sNetWhole_eq (n : Int) (l : List Rn) (hl : l.length ≤ 1000000000) (k : Nat) (hk : 2 * l.length + 200 ≤ k) : spec_NetWhole.f k n l = some (netWhole n l) := by
  unfold spec_NetWhole.f netWhole
  have hll := linked_length n l
  rw [sNetLinked_eq n l hl k hk, Option.bind_some, sWhole_l0 _ (by omega) k 0 (by omega) (by omega) (by omega)]
  rw [show (0 : Int).toNat = 0 from rfl, List.drop_zero]
  unfold linked
  by_cases hv : valid n l = true
  · have v := valid_iff.mp hv
    rw [if_pos hv, hv, labs_zero, Gr.labs_length, decide_eq_true (by omega), Bool.and_true]; rfl
  · rw [if_neg hv]
    have : valid n l = false := by simpa using hv
    simp [this]
def netLoops (n : Int) (l : List Rn) : Int := if valid n l = true then l.length - n + Gr.comps n (es l) else -1
theorem cnt_step (p : Nat → Bool) {i : Int} (h0 : 0 ≤ i) : (((List.range (i + 1).toNat).countP p : Nat) : Int) = ((List.range i.toNat).countP p : Nat) + (if p i.toNat = true then 1 else 0) := by
  rw [show (i + 1).toNat = i.toNat + 1 by omega, List.range_succ, List.countP_append]
  simp only [List.countP_cons, List.countP_nil]
  split <;> simp
theorem cnt_le (p : Nat → Bool) (i : Nat) : (List.range i).countP p ≤ i := by
  have := List.countP_le_length (p := p) (l := List.range i)
  rwa [List.length_range] at this
theorem iLoops_l0 {n : Int} (h0n : 0 ≤ n) (hn : n ≤ 1000) (e : List Gr.E) (b : Int) (hb : -1000000000 ≤ b ∧ b ≤ 1000000000) : ∀ (k : Nat) (i : Int), 0 ≤ i → i ≤ n → n < k + i → impl_NetLoops.l0 k (b + ((List.range i.toNat).countP (fun i : Nat => Gr.lab e i == (i : Int)) : Nat)) (Gr.labs n e) n i = some (b + Gr.comps n e)
  | 0, i, _, h1, h2 => by omega
  | k + 1, i, h0, h1, h2 => by
    simp only [impl_NetLoops.l0]
    by_cases c : i < n
    · have st := cnt_step (fun i : Nat => Gr.lab e i == (i : Int)) h0
      have cl := cnt_le (fun i : Nat => Gr.lab e i == (i : Int)) i.toNat
      have ih := iLoops_l0 h0n hn e b hb k (i + 1) (by omega) (by omega) (by omega)
      rw [st] at ih
      rw [if_pos c, if_pos h0, if_pos (by rw [Gr.labs_length]; omega), rd_gt, Gr.gt_labs e h0 c, w64 (i + 1) (by omega) (by omega)]
      simp only [beq_iff_eq, show ((i.toNat : Nat) : Int) = i by omega] at ih
      by_cases d : i = Gr.lab e i
      · rw [if_pos d, w64 _ (by omega) (by omega)]
        rw [if_pos d.symm] at ih
        rw [← ih, Int.add_assoc]
      · rw [if_neg d]
        rw [if_neg (fun z => d z.symm)] at ih
        rw [← ih, Int.add_zero]
    · rw [if_neg c, show i = n by omega]; rfl
theorem sLoops_l0 {n : Int} (h0n : 0 ≤ n) (hn : n ≤ 1000) (e : List Gr.E) (b : Int) (hb : -1000000000 ≤ b ∧ b ≤ 1000000000) : ∀ (k : Nat) (i : Int), 0 ≤ i → i ≤ n → n < k + i → spec_NetLoops.l0 k n (Gr.labs n e) (b + ((List.range i.toNat).countP (fun i : Nat => Gr.lab e i == (i : Int)) : Nat)) i = some (b + Gr.comps n e)
  | 0, i, _, h1, h2 => by omega
  | k + 1, i, h0, h1, h2 => by
    simp only [spec_NetLoops.l0]
    by_cases c : i < n
    · have st := cnt_step (fun i : Nat => Gr.lab e i == (i : Int)) h0
      have cl := cnt_le (fun i : Nat => Gr.lab e i == (i : Int)) i.toNat
      have ih := sLoops_l0 h0n hn e b hb k (i + 1) (by omega) (by omega) (by omega)
      rw [st] at ih
      rw [if_pos c, if_pos h0, if_pos (by rw [Gr.labs_length]; omega), rd_gt, Gr.gt_labs e h0 c, w64 (i + 1) (by omega) (by omega)]
      simp only [beq_iff_eq, show ((i.toNat : Nat) : Int) = i by omega] at ih
      by_cases d : Gr.lab e i = i
      · rw [if_pos d, w64 _ (by omega) (by omega)]
        rw [if_pos d] at ih
        rw [← ih, Int.add_assoc]
      · rw [if_neg d]
        rw [if_neg d] at ih
        rw [← ih, Int.add_zero]
    · rw [if_neg c, show i = n by omega]; rfl
theorem iNetLoops_eq (n : Int) (l : List Rn) (hl : l.length ≤ 1000000000) (k : Nat) (hk : 2 * l.length + 200 ≤ k) : impl_NetLoops.f k n l = some (netLoops n l) := by
  unfold impl_NetLoops.f netLoops
  rw [iNetValid_eq n l hl k (by omega), Option.bind_some]
  by_cases hv : valid n l = true
  · have v := valid_iff.mp hv
    rw [if_pos hv, if_pos hv, leastLinked_eq v.1 v.2.1 (by omega) v.2.2.2, Option.bind_some, w64 _ (by omega) (by omega), Gr.labs_length, show ((n.toNat : Nat) : Int) = n by omega]
    have := iLoops_l0 (n := n) (by omega) (by omega) (es l) ((l.length : Int) - n) (by omega) k 0 (by omega) (by omega) (by omega)
    simpa using this
  · rw [if_neg hv, if_neg hv]
theorem sNetLoops_eq (n : Int) (l : List Rn) (hl : l.length ≤ 1000000000) (k : Nat) (hk : 2 * l.length + 200 ≤ k) : spec_NetLoops.f k n l = some (netLoops n l) := by
  unfold spec_NetLoops.f netLoops
  rw [sNetLinked_eq n l hl k hk, Option.bind_some]
  unfold linked
  by_cases hv : valid n l = true
  · have v := valid_iff.mp hv
    rw [if_pos hv, if_pos hv, if_neg (by rw [Gr.labs_length]; omega), w64 _ (by omega) (by omega)]
    have := sLoops_l0 (n := n) (by omega) (by omega) (es l) ((l.length : Int) - n) (by omega) k 0 (by omega) (by omega) (by omega)
    simpa using this
  · rw [if_neg hv, if_neg hv]; rfl
end Go.Proofs.Ytbnndmkkmceenaa.Pure
