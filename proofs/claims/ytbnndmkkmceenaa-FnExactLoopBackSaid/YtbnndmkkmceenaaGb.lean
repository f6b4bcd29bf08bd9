import Derived.Test.YtbnndmkkmceenaaGa
/- The first tree of a net, and what its runs link. Plain Lean. -/
namespace Go.Proofs.Ytbnndmkkmceenaa.Gr
set_option linter.unusedVariables false
set_option linter.unusedSimpArgs false
def ed (es : List E) (k : Nat) : E := es.getD k (0, 0)
def pk (es : List E) (t : List Int) : List E := t.map (fun k => ed es k.toNat)
theorem ed_mem {es : List E} {k : Nat} (h : k < es.length) : ed es k ∈ es := by
  unfold ed; rw [List.getD_eq_getElem?_getD, List.getElem?_eq_getElem h]; exact List.getElem_mem h
theorem ed_left {es fs : List E} {k : Nat} (h : k < es.length) : ed (es ++ fs) k = ed es k := by
  unfold ed; rw [List.getD_eq_getElem?_getD, List.getD_eq_getElem?_getD, List.getElem?_append_left h]
theorem ed_last {es : List E} {e : E} : ed (es ++ [e]) es.length = e := by
  unfold ed; rw [List.getD_eq_getElem?_getD]; simp
theorem take_succ_ed {es : List E} {k : Nat} (h : k < es.length) : es.take (k + 1) = es.take k ++ [ed es k] := by
  rw [List.take_add_one, List.getElem?_eq_getElem h]
  unfold ed
  rw [List.getD_eq_getElem?_getD, List.getElem?_eq_getElem h]
  rfl
/-- the run k links more than the runs before it -/
def links (es : List E) (k : Nat) : Bool := lab (es.take k) (ed es k).1 != lab (es.take k) (ed es k).2
def firstN (es : List E) (m : Nat) : List Int := ((List.range m).filter (links es)).map (fun k : Nat => (k : Int))
def first (es : List E) : List Int := firstN es es.length
theorem firstN_succ (es : List E) (m : Nat) : firstN es (m + 1) = firstN es m ++ (if links es m then [(m : Int)] else []) := by
  unfold firstN
  rw [List.range_succ, List.filter_append, List.map_append]
  congr 1
  by_cases h : links es m = true <;> simp [h]
theorem firstN_mem {es : List E} {m : Nat} {k : Int} (h : k ∈ firstN es m) : 0 ≤ k ∧ k < m ∧ links es k.toNat = true := by
  unfold firstN at h
  obtain ⟨i, hi, rfl⟩ := List.mem_map.mp h
  obtain ⟨h1, h2⟩ := List.mem_filter.mp hi
  rw [List.mem_range] at h1
  refine ⟨by omega, by omega, ?_⟩
  simpa using h2
theorem mem_firstN {es : List E} {m k : Nat} (h : k < m) (l : links es k = true) : (k : Int) ∈ firstN es m := by
  unfold firstN
  exact List.mem_map.mpr ⟨k, List.mem_filter.mpr ⟨List.mem_range.mpr h, l⟩, rfl⟩
theorem links_take {es : List E} {m k : Nat} (h : k < m) : links (es.take m) k = links es k := by
  unfold links
  have : ed (es.take m) k = ed es k := by
    unfold ed
    rw [List.getD_eq_getElem?_getD, List.getD_eq_getElem?_getD, List.getElem?_take_of_lt h]
  rw [this, List.take_take, Nat.min_eq_left (by omega)]
theorem lab_firstN {n : Int} {es : List E} (he : Ends n es) (m : Nat) (hm : m ≤ es.length) : lab (pk es (firstN es m)) = lab (es.take m) ∧ ((firstN es m).length : Int) = n.toNat - comps n (es.take m) := by
  induction m with
  | zero =>
    have := comps_nil n
    unfold firstN pk
    simp [this]
  | succ m ih =>
    obtain ⟨i1, i2⟩ := ih (by omega)
    have hsub : Ends n (es.take (m + 1)) := he.sub (fun e h => List.mem_of_mem_take h)
    rw [take_succ_ed (by omega)] at hsub ⊢
    have c := comps_snoc hsub
    rw [firstN_succ]
    by_cases h : lab (es.take m) (ed es m).1 = lab (es.take m) (ed es m).2
    · have l : links es m = false := by unfold links; simpa using h
      rw [l]
      simp only [Bool.false_eq_true, if_false, List.append_nil]
      rw [if_pos h] at c
      rw [lab_snoc, mrg_same h, i1]
      exact ⟨rfl, by omega⟩
    · have l : links es m = true := by unfold links; simpa using h
      rw [l]
      simp only [if_true]
      rw [if_neg h] at c
      unfold pk at i1 ⊢
      rw [List.map_append, lab_snoc, List.length_append]
      simp only [List.map_cons, List.map_nil]
      rw [lab_snoc, i1]
      refine ⟨by simp, ?_⟩
      have := comps_append (a := []) (b := es.take m) hsub.left
      rw [comps_nil, List.nil_append] at this
      simp only [List.length_cons, List.length_nil]
      omega
theorem lab_first {n : Int} {es : List E} (he : Ends n es) : lab (pk es (first es)) = lab es := by
  have := (lab_firstN he es.length (Nat.le_refl _)).1
  rwa [List.take_length] at this
theorem first_length {n : Int} {es : List E} (he : Ends n es) (hn : 0 < n) (w : Whole n es) : ((first es).length : Int) = n - 1 := by
  have := (lab_firstN he es.length (Nat.le_refl _)).2
  rw [List.take_length, (whole_iff he hn).mp w] at this
  unfold first
  omega
/-- ascending indexes above last, below N -/
def asc (last : Int) (N : Int) : List Int → Bool
  | [] => true
  | k :: t => decide (last < k) && decide (k < N) && asc k N t
theorem asc_snoc {N : Int} : ∀ {t : List Int} {last k : Int}, asc last N t = true → (∀ x ∈ t, x < k) → last < k → k < N → asc last N (t ++ [k]) = true
  | [], last, k, _, _, h1, h2 => by simp [asc, h1, h2]
  | x :: t, last, k, h, hx, h1, h2 => by
    simp only [asc, Bool.and_eq_true, decide_eq_true_eq, List.cons_append] at h ⊢
    exact ⟨h.1, asc_snoc h.2 (fun y hy => hx y (List.mem_cons_of_mem _ hy)) (hx x (by simp)) h2⟩
theorem asc_firstN (es : List E) (N : Int) (m : Nat) (h : (m : Int) ≤ N) : asc (-1) N (firstN es m) = true := by
  induction m with
  | zero => rfl
  | succ m ih =>
    rw [firstN_succ]
    split
    · exact asc_snoc (ih (by omega)) (fun x hx => (firstN_mem hx).2.1) (by omega) (by omega)
    · rw [List.append_nil]; exact ih (by omega)
theorem asc_mem {N : Int} : ∀ {t : List Int} {last : Int}, asc last N t = true → ∀ x ∈ t, last < x ∧ x < N
  | [], _, _, x, hx => by cases hx
  | y :: t, last, h, x, hx => by
    simp only [asc, Bool.and_eq_true, decide_eq_true_eq] at h
    rcases List.mem_cons.mp hx with rfl | hx
    · exact h.1
    · have := asc_mem h.2 x hx; omega
theorem asc_append {N : Int} : ∀ {a b : List Int} {last : Int}, asc last N (a ++ b) = true → asc last N a = true ∧ (∀ x ∈ a, ∀ y ∈ b, x < y) ∧ asc last N b = true
  | [], b, last, h => ⟨rfl, (fun x hx => by cases hx), h⟩
  | k :: a, b, last, h => by
    simp only [asc, Bool.and_eq_true, decide_eq_true_eq, List.cons_append] at h ⊢
    obtain ⟨i1, i2, i3⟩ := asc_append h.2
    refine ⟨⟨h.1, i1⟩, ?_, ?_⟩
    · intro x hx y hy
      rcases List.mem_cons.mp hx with rfl | hx
      · exact (asc_mem h.2 y (List.mem_append_right _ hy)).1
      · exact i2 x hx y hy
    · cases b with
      | nil => rfl
      | cons y b =>
        simp only [asc, Bool.and_eq_true, decide_eq_true_eq] at i3 ⊢
        exact ⟨⟨by omega, i3.1.2⟩, i3.2⟩
theorem pk_mem {es : List E} {t : List Int} {last : Int} (hl : -1 ≤ last) (h : asc last es.length t = true) : ∀ e ∈ pk es t, e ∈ es := by
  intro e he
  unfold pk at he
  obtain ⟨k, hk, rfl⟩ := List.mem_map.mp he
  have := asc_mem h k hk
  exact ed_mem (by omega)
theorem first_asc (es : List E) : asc (-1) es.length (first es) = true := asc_firstN es _ _ (by omega)
theorem first_whole {n : Int} {es : List E} (he : Ends n es) (w : Whole n es) : Whole n (pk es (first es)) := by
  intro i h0 h1
  rw [lab_first he]; exact w i h0 h1
/-- what precedes an index in the first tree -/
theorem firstN_filter (es : List E) (k m : Nat) (h : k ≤ m) : (firstN es m).filter (fun x : Int => decide (x < (k : Int))) = firstN es k := by
  induction m with
  | zero => obtain rfl : k = 0 := by omega
            rfl
  | succ m ih =>
    by_cases hk : k = m + 1
    · subst hk
      rw [List.filter_eq_self]
      intro x hx
      have := firstN_mem hx
      simp; omega
    · rw [firstN_succ, List.filter_append, ih (by omega)]
      split
      · have : ((m : Int) < k) = False := by simp; omega
        simp [this]
      · simp
theorem split_filter {N : Int} {a b : List Int} {k last : Int} (_ : asc last N (a ++ b) = true) (ha : ∀ x ∈ a, x < k) (hb : ∀ x ∈ b, ¬ x < k) : (a ++ b).filter (fun x : Int => decide (x < k)) = a := by
  rw [List.filter_append]
  have h1 : a.filter (fun x => decide (x < k)) = a := by
    rw [List.filter_eq_self]; intro x hx; simpa using ha x hx
  have h2 : b.filter (fun x => decide (x < k)) = [] := by
    rw [List.filter_eq_nil_iff]; intro x hx; simpa using hb x hx
  rw [h1, h2, List.append_nil]
/-- no tree stands ahead of the first one -/
theorem first_least {n : Int} {es : List E} (he : Ends n es) (hn : 0 < n) (w : Whole n es) {a b : List Int} {c : Int} (h : first es = a ++ c :: b) {k : Nat} (hk : (k : Int) < c) (ha : ∀ x ∈ a, x < (k : Int))
    (hv : Ends n (pk es (a ++ (k : Int) :: b))) : ¬ Whole n (pk es (a ++ (k : Int) :: b)) := by
  have hs := first_asc es
  rw [h] at hs
  obtain ⟨_, h2, h3⟩ := asc_append hs
  have hc := asc_mem h3 c (by simp)
  have hf : firstN es k = a := by
    have e1 := firstN_filter es k es.length (by omega)
    rw [show firstN es es.length = a ++ c :: b from h] at e1
    rw [← e1]
    refine split_filter hs ha (fun x hx => ?_)
    rcases List.mem_cons.mp hx with rfl | hx
    · omega
    · simp only [asc, Bool.and_eq_true, decide_eq_true_eq] at h3
      have := asc_mem h3.2 x hx
      omega
  have hno : links es k = false := by
    cases e : links es k with
    | false => rfl
    | true =>
      have m : (k : Int) ∈ first es := mem_firstN (by omega) e
      rw [h] at m
      rcases List.mem_append.mp m with m | m
      · have := ha _ m; omega
      · rcases List.mem_cons.mp m with m | m
        · omega
        · simp only [asc, Bool.and_eq_true, decide_eq_true_eq] at h3
          have := asc_mem h3.2 _ m
          omega
  have hl : lab (es.take k) (ed es k).1 = lab (es.take k) (ed es k).2 := by
    unfold links at hno; simpa using hno
  have q := lab_firstN he k (by omega)
  rw [hf] at q
  intro W
  have hx : pk es (a ++ (k : Int) :: b) = (pk es a ++ [ed es k]) ++ pk es b := by
    unfold pk; simp
  rw [hx] at hv W
  have c1 := (whole_iff hv hn).mp W
  have c2 := comps_append hv
  have c3 := comps_snoc hv.left
  rw [if_pos (by rw [q.1]; exact hl)] at c3
  have c4 := comps_append (a := []) (b := pk es a) hv.left.left
  rw [comps_nil, List.nil_append] at c4
  have c5 := first_length he hn w
  rw [h, List.length_append] at c5
  simp only [List.length_cons] at c5
  have c6 : (pk es a).length = a.length := by unfold pk; simp
  have c7 : (pk es b).length = b.length := by unfold pk; simp
  omega
theorem first_k {n : Int} {es : List E} {k : Nat} (he : Ends n es) (hk : k ≤ es.length) : lab (pk es (firstN es k)) = lab (es.take k) := (lab_firstN he k hk).1
/-- runs in a number of one less than the nodes cannot be fewer and link all -/
theorem few_runs {n : Int} {es : List E} (he : Ends n es) (hn : 0 < n) (hl : (es.length : Int) + 1 < n) : ¬ Whole n es := by
  intro w
  have c1 := (whole_iff he hn).mp w
  have c2 := comps_append (a := []) (b := es) he
  rw [comps_nil, List.nil_append] at c2
  omega
end Go.Proofs.Ytbnndmkkmceenaa.Gr
