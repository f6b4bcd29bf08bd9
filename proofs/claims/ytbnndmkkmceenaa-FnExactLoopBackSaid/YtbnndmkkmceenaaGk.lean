import Derived.Test.YtbnndmkkmceenaaGi
import Derived.Test.YtbnndmkkmceenaaGh
/- Loops: they begin anywhere, have two directions, and each run beside the first tree has one. Plain Lean. -/
namespace Go.Proofs.Ytbnndmkkmceenaa.Gr
set_option linter.unusedVariables false
set_option linter.unusedSimpArgs false
theorem asc_nodup {N : Int} : ∀ {t : List Int} {last : Int}, asc last N t = true → t.Nodup
  | [], _, _ => List.nodup_nil
  | k :: t, last, h => by
    simp only [asc, Bool.and_eq_true, decide_eq_true_eq] at h
    rw [List.nodup_cons]
    exact ⟨fun hm => by have := asc_mem h.2 k hm; omega, asc_nodup h.2⟩
theorem tree_of {n : Int} {es : List E} {t : List Int} (he : Ends n es) (hn : 0 < n) (hl : (t.length : Int) = n - 1) (ha : asc (-1) es.length t = true) (w : Whole n (pk es t)) : Tree n es t := by
  have hE : Ends n (pk es t) := he.sub (pk_mem (by omega) ha)
  refine ⟨⟨hE, ?_⟩, asc_nodup ha, fun k hk => ?_⟩
  · rw [(whole_iff hE hn).mp w]; omega
  · have := asc_mem ha k hk; omega
theorem first_tree {n : Int} {es : List E} (he : Ends n es) (hn : 0 < n) (w : Whole n es) : Tree n es (first es) :=
  tree_of he hn (first_length he hn w) (first_asc es) (first_whole he w)
/-! ways among all runs -/
def inR (N z : Int) : Bool := decide (z ≠ 0) && decide (-N ≤ z) && decide (z ≤ N)
theorem inR_iff {N z : Int} : inR N z = true ↔ z ≠ 0 ∧ 0 ≤ ix z ∧ ix z < N := by
  unfold inR ix
  simp only [Bool.and_eq_true, decide_eq_true_eq]
  split <;> omega
/-- a way from u on, among all runs -/
def chn (es : List E) : Int → List Int → Bool
  | _, [] => true
  | u, z :: w => inR es.length z && decide (fr es z = u) && chn es (too es z) w
def fin (es : List E) : Int → List Int → Int
  | u, [] => u
  | _, z :: w => fin es (too es z) w
theorem chn_append {es : List E} : ∀ {a b : List Int} {u : Int}, chn es u (a ++ b) = (chn es u a && chn es (fin es u a) b)
  | [], b, u => by simp [chn, fin]
  | z :: a, b, u => by simp only [List.cons_append, chn, fin, chn_append (a := a), Bool.and_assoc]
theorem fin_append {es : List E} : ∀ {a b : List Int} {u : Int}, fin es u (a ++ b) = fin es (fin es u a) b
  | [], _, _ => rfl
  | z :: a, b, u => by simp only [List.cons_append, fin, fin_append (a := a)]
theorem fin_cons {es : List E} {w : List Int} (h : w ≠ []) (u v : Int) : fin es u w = fin es v w := by
  cases w with
  | nil => exact absurd rfl h
  | cons z w => rfl
theorem Wk.chn {es : List E} {t : List Int} (ht : ∀ k ∈ t, 0 ≤ k ∧ k < es.length) : ∀ {w : List Int} {u v : Int}, Wk es t u w v → Gr.chn es u w = true ∧ fin es u w = v
  | [], u, v, h => ⟨rfl, h⟩
  | z :: w, u, v, h => by
    have i := Wk.chn ht h.2.2
    refine ⟨?_, i.2⟩
    unfold Gr.chn
    have := ht _ h.1.1
    simp only [Bool.and_eq_true, decide_eq_true_eq]
    exact ⟨⟨inR_iff.mpr ⟨h.1.2, this.1, this.2⟩, h.2.1⟩, i.1⟩
/-- a loop: a way that comes back -/
def loopB (es : List E) (w : List Int) : Bool := (w != []) && chn es (fin es 0 w) w
theorem loop_iff {es : List E} {w : List Int} : loopB es w = true ↔ w ≠ [] ∧ ∃ u, chn es u w = true ∧ fin es u w = u := by
  unfold loopB
  rw [Bool.and_eq_true]
  constructor
  · rintro ⟨h1, h2⟩
    have h1' : w ≠ [] := by simpa using h1
    exact ⟨h1', fin es 0 w, h2, (fin_cons h1' _ _)⟩
  · rintro ⟨h1, u, h2, h3⟩
    refine ⟨by simpa using h1, ?_⟩
    rw [fin_cons h1 0 u, h3]; exact h2
theorem loop_turn {es : List E} {a b : List Int} (h : loopB es (a ++ b) = true) : loopB es (b ++ a) = true := by
  obtain ⟨h1, u, h2, h3⟩ := loop_iff.mp h
  rw [loop_iff]
  refine ⟨fun e => h1 ?_, fin es u a, ?_, ?_⟩
  · have := congrArg List.length e
    rw [List.length_append] at this
    simp only [List.length_nil] at this
    have ha : a = [] := List.length_eq_zero_iff.mp (by omega)
    have hb : b = [] := List.length_eq_zero_iff.mp (by omega)
    rw [ha, hb]; rfl
  · rw [chn_append, Bool.and_eq_true] at h2 ⊢
    rw [fin_append] at h3
    refine ⟨h2.2, ?_⟩
    rw [h3]; exact h2.1
  · rw [fin_append] at h3 ⊢
    rw [h3]
theorem fr_neg {es : List E} {z : Int} (h : z ≠ 0) : fr es (-z) = too es z ∧ too es (-z) = fr es z ∧ ix (-z) = ix z := by
  have e : ix (-z) = ix z := by unfold ix; split <;> split <;> omega
  unfold fr too
  rw [e]
  by_cases p : z > 0
  · rw [if_pos p, if_pos p, if_neg (by omega), if_neg (by omega)]; exact ⟨rfl, rfl, rfl⟩
  · rw [if_neg p, if_neg p, if_pos (by omega), if_pos (by omega)]; exact ⟨rfl, rfl, rfl⟩
def back (w : List Int) : List Int := (w.map (- ·)).reverse
theorem back_back (w : List Int) : back (back w) = w := by
  unfold back
  rw [List.map_reverse, List.reverse_reverse, List.map_map]
  conv => rhs; rw [← List.map_id w]
  apply List.map_congr_left
  intro x _
  simp
theorem back_length (w : List Int) : (back w).length = w.length := by unfold back; simp
theorem chn_back {es : List E} : ∀ {w : List Int} {u : Int}, chn es u w = true → chn es (fin es u w) (back w) = true ∧ fin es (fin es u w) (back w) = u
  | [], u, _ => ⟨rfl, rfl⟩
  | z :: w, u, h => by
    unfold chn at h
    simp only [Bool.and_eq_true, decide_eq_true_eq] at h
    obtain ⟨⟨h1, h2⟩, h3⟩ := h
    have i := chn_back h3
    have e : back (z :: w) = back w ++ [-z] := by unfold back; simp
    have z0 := (inR_iff.mp h1)
    have f := fr_neg (es := es) z0.1
    rw [e]
    simp only [fin]
    rw [chn_append, fin_append, i.2]
    refine ⟨?_, ?_⟩
    · rw [Bool.and_eq_true]
      refine ⟨i.1, ?_⟩
      simp only [chn, Bool.and_true, Bool.and_eq_true, decide_eq_true_eq]
      exact ⟨inR_iff.mpr ⟨by omega, by rw [f.2.2]; exact z0.2⟩, f.1⟩
    · simp only [fin]
      rw [f.2.1, h2]
theorem loop_back {es : List E} {w : List Int} (h : loopB es w = true) : loopB es (back w) = true := by
  obtain ⟨h1, u, h2, h3⟩ := loop_iff.mp h
  rw [loop_iff]
  have b := chn_back h2
  rw [h3] at b
  refine ⟨fun e => h1 ?_, u, b.1, b.2⟩
  have := congrArg List.length e
  rw [back_length] at this
  exact List.length_eq_zero_iff.mp this
theorem loop_both {es : List E} {a b : List Int} (h : loopB es a = true) (hb : b = back a) : loopB es (a ++ b) = true := by
  obtain ⟨h1, u, ha, hf⟩ := loop_iff.mp h
  have c := chn_back ha
  rw [hf] at c
  rw [loop_iff, hb]
  refine ⟨fun e => h1 (List.append_eq_nil_iff.mp e).1, u, ?_, ?_⟩
  · rw [chn_append, hf, ha, c.1]; rfl
  · rw [fin_append, hf, c.2]
/-! the sum of the rises -/
def err (rs : List R) (w : List Int) : Int := (w.map (rise rs)).sum
theorem sum_append (a b : List Int) : (a ++ b).sum = a.sum + b.sum := by
  induction a with
  | nil => simp
  | cons x a ih => rw [List.cons_append, List.sum_cons, List.sum_cons, ih]; omega
theorem err_append (rs : List R) (a b : List Int) : err rs (a ++ b) = err rs a + err rs b := by unfold err; rw [List.map_append, sum_append]
theorem err_turn (rs : List R) (a b : List Int) : err rs (a ++ b) = err rs (b ++ a) := by rw [err_append, err_append]; omega
theorem rise_neg {rs : List R} {z : Int} (h : z ≠ 0) : rise rs (-z) = - rise rs z := by
  unfold rise
  rw [(fr_neg (es := []) h).2.2]
  by_cases p : z > 0
  · rw [if_pos p, if_neg (by omega)]
  · rw [if_neg p, if_pos (by omega)]; omega
theorem err_back {rs : List R} : ∀ {w : List Int}, (∀ z ∈ w, z ≠ 0) → err rs (back w) = - err rs w
  | [], _ => rfl
  | z :: w, h => by
    have e : back (z :: w) = back w ++ [-z] := by unfold back; simp
    rw [e, err_append, err_back (fun x hx => h x (List.mem_cons_of_mem _ hx))]
    unfold err
    simp only [List.map_cons, List.map_nil, List.sum_cons, List.sum_nil]
    rw [rise_neg (h z (by simp))]; omega
theorem chn_nz {es : List E} : ∀ {w : List Int} {u : Int}, chn es u w = true → ∀ z ∈ w, inR es.length z = true
  | [], _, _, z, hz => by cases hz
  | y :: w, u, h, z, hz => by
    unfold chn at h
    simp only [Bool.and_eq_true] at h
    rcases List.mem_cons.mp hz with rfl | hz
    · exact h.1.1
    · exact chn_nz h.2 z hz
/-- over heights that fit, the rises of a way add up to the difference -/
theorem chn_rise {rs : List R} {P : Int → Int} (hP : Pot rs P) : ∀ {w : List Int} {u : Int}, chn (eds rs) u w = true → err rs w = P (fin (eds rs) u w) - P u
  | [], u, _ => by simp [err, fin]
  | z :: w, u, h => by
    unfold chn at h
    simp only [Bool.and_eq_true, decide_eq_true_eq] at h
    have i := chn_rise hP h.2
    have hz := inR_iff.mp h.1.1
    rw [eds_length] at hz
    have hm : rs.getD (ix z).toNat (0, 0, 0) ∈ rs := by
      rw [List.getD_eq_getElem?_getD, List.getElem?_eq_getElem (by omega), Option.getD_some]
      exact List.getElem_mem _
    have e := rise_pot (hP _ hm)
    unfold err at i ⊢
    rw [List.map_cons, List.sum_cons, i, e, h.1.2]
    simp only [fin]; omega
theorem err_bound {rs : List R} {M : Int} (hM : 0 ≤ M) (hb : ∀ r ∈ rs, -M ≤ r.2.2 ∧ r.2.2 ≤ M) : ∀ (w : List Int), -(w.length * M) ≤ err rs w ∧ err rs w ≤ w.length * M
  | [] => by simp [err]
  | z :: w => by
    have i := err_bound hM hb w
    have e : err rs (z :: w) = rise rs z + err rs w := by unfold err; simp
    have r : -M ≤ rise rs z ∧ rise rs z ≤ M := by
      unfold rise
      have : ∀ k : Nat, -M ≤ (rs.getD k (0, 0, 0)).2.2 ∧ (rs.getD k (0, 0, 0)).2.2 ≤ M := by
        intro k
        rw [List.getD_eq_getElem?_getD]
        cases h : rs[k]? with
        | none => simp; omega
        | some r => exact hb r (List.mem_of_getElem? h)
      have := this (ix z).toNat
      split <;> omega
    rw [e, List.length_cons, show ((w.length + 1 : Nat) : Int) = (w.length : Int) + 1 by omega, Int.add_mul]
    omega
/-! the loop of a run beside the first tree -/
theorem way_exists {n : Int} {es : List E} {t : List Int} (hT : Tree n es t) (w : Whole n (pk es t)) {u v : Int} (hu : 0 ≤ u ∧ u < n) (hv : 0 ≤ v ∧ v < n) : ∃ p, Wk es t u p v ∧ Red p := by
  have h0 : ∀ i, 0 ≤ i → kt ((List.replicate n.toNat false).set u.toNat true) i = decide (i = u) := by
    intro i i0
    rw [kt_set hu.1 (by simp; omega) i0]
    by_cases c : i = u
    · simp [c]
    · rw [if_neg c]
      unfold kt
      rw [List.getD_eq_getElem?_getD, List.getElem?_replicate]
      simp only [c, decide_false]
      split <;> rfl
  obtain ⟨p, _, h1, h2⟩ := twh_way hT w hu hv (S := (List.replicate n.toNat false).set u.toNat true) (by simp) h0 (d := n.toNat + 2) (by omega)
  exact ⟨p, h1, h2⟩
theorem loop_of {n : Int} {es : List E} {t w : List Int} {k : Nat} (hT : Tree n es t) (hk : k < es.length) (hkt : (k : Int) ∉ t) (hw : Wk es t (ed es k).2 w (ed es k).1) (hr : Red w) :
    loopB es (((k : Int) + 1) :: w) = true ∧ (((k : Int) + 1) :: w).length ≤ es.length ∧ (∀ z ∈ w, ix z ∈ t) ∧ ((((k : Int) + 1) :: w).map ix).Nodup := by
  have ez : ix ((k : Int) + 1) = k := by unfold ix; rw [if_pos (by omega)]; omega
  have ef : fr es ((k : Int) + 1) = (ed es k).1 := by unfold fr; rw [if_pos (by omega), ez, Int.toNat_natCast]
  have et : too es ((k : Int) + 1) = (ed es k).2 := by unfold too; rw [if_pos (by omega), ez, Int.toNat_natCast]
  have hc := hw.chn hT.range
  have hin : ∀ z ∈ w, ix z ∈ t := fun z hz => (hw.nodes z hz).1
  have hnd : ((((k : Int) + 1) :: w).map ix).Nodup := by
    rw [List.map_cons, List.nodup_cons, ez]
    refine ⟨fun hm => ?_, way_nodup t hT.forest (fun k hk => (hT.range k hk).1) hT.nodup hw hr⟩
    obtain ⟨z, hz, e⟩ := List.mem_map.mp hm
    exact hkt (e ▸ hin z hz)
  refine ⟨?_, ?_, hin, hnd⟩
  · rw [loop_iff]
    refine ⟨by simp, (ed es k).1, ?_, ?_⟩
    · unfold chn
      rw [et, hc.1, ef]
      simp only [decide_true, Bool.and_true]
      exact inR_iff.mpr ⟨by omega, by rw [ez]; omega, by rw [ez]; omega⟩
    · simp only [fin]
      rw [et]; exact hc.2
  · have := nodup_bound es.length _ hnd (fun x hx => by
      obtain ⟨z, hz, rfl⟩ := List.mem_map.mp hx
      rcases List.mem_cons.mp hz with rfl | hz
      · rw [ez]; omega
      · exact hT.range _ (hin z hz))
    rwa [List.length_map] at this
end Go.Proofs.Ytbnndmkkmceenaa.Gr
