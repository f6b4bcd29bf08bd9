import Derived.Test.YtbnndmkkmceenaaG0
/- Labels of a net: the least linked node of each node, by merging along the runs one by one. Plain Lean. -/
namespace Go.Proofs.Ytbnndmkkmceenaa.Gr
set_option linter.unusedVariables false
set_option linter.unusedSimpArgs false
theorem snoc_ind {α : Type} {P : List α → Prop} (h0 : P []) (h1 : ∀ l x, P l → P (l ++ [x])) : ∀ l, P l := by
  intro l
  have key : ∀ m : List α, P m.reverse := by
    intro m
    induction m with
    | nil => exact h0
    | cons x m ih => rw [List.reverse_cons]; exact h1 _ _ ih
  have := key l.reverse
  rwa [List.reverse_reverse] at this
def mrg (L : Int → Int) (a b : Int) : Int → Int := fun i => if L i = max (L a) (L b) then min (L a) (L b) else L i
def lab (es : List E) : Int → Int := es.foldl (fun L e => mrg L e.1 e.2) id
theorem lab_nil : lab [] = id := rfl
theorem lab_snoc (es : List E) (e : E) : lab (es ++ [e]) = mrg (lab es) e.1 e.2 := by
  unfold lab; rw [List.foldl_append]; rfl
theorem mrg_same {L : Int → Int} {a b : Int} (h : L a = L b) : mrg L a b = L := by
  funext i; unfold mrg; rw [h]; split <;> omega
theorem mrg_comm (L : Int → Int) (a b : Int) : mrg L a b = mrg L b a := by
  funext i; unfold mrg; rw [Int.max_comm, Int.min_comm]
theorem mrg_const {L : Int → Int} {a b i j : Int} (h : L i = L j) : mrg L a b i = mrg L a b j := by
  unfold mrg; rw [h]
theorem mrg_ends (L : Int → Int) (a b : Int) : mrg L a b a = mrg L a b b := by
  unfold mrg; split <;> split <;> omega
theorem lab_run {es : List E} {e : E} (h : e ∈ es) : lab es e.1 = lab es e.2 := by
  induction es using snoc_ind with
  | h0 => cases h
  | h1 l x ih =>
    rw [lab_snoc]
    rcases List.mem_append.mp h with h | h
    · exact mrg_const (ih h)
    · obtain rfl : e = x := by simpa using h
      exact mrg_ends _ _ _
theorem lab_lab (es : List E) : ∀ i, lab es (lab es i) = lab es i := by
  induction es using snoc_ind with
  | h0 => intro i; rfl
  | h1 l x ih =>
    intro i
    rw [lab_snoc]
    have ha := ih x.1
    have hb := ih x.2
    have hi := ih i
    generalize lab l = L at *
    unfold mrg
    generalize x.1 = a at *
    generalize x.2 = b at *
    by_cases hm : L i = max (L a) (L b)
    · rw [if_pos hm]
      rcases Int.le_total (L a) (L b) with h | h
      · rw [show min (L a) (L b) = L a by omega, ha]; split <;> omega
      · rw [show min (L a) (L b) = L b by omega, hb]; split <;> omega
    · rw [if_neg hm, hi, if_neg hm]
theorem lab_U {X : Type} (es : List E) (f : Int → X) (h : ∀ e ∈ es, f e.1 = f e.2) : ∀ i, f (lab es i) = f i := by
  induction es using snoc_ind with
  | h0 => intro i; rfl
  | h1 l x ih =>
    have ih := ih (fun e he => h e (List.mem_append_left _ he))
    have hx := h x (by simp)
    intro i
    rw [lab_snoc]
    unfold mrg
    have ha := ih x.1
    have hb := ih x.2
    split
    · rename_i hm
      rw [← ih i, hm]
      rcases Int.le_total (lab l x.1) (lab l x.2) with h | h
      · rw [show min (lab l x.1) (lab l x.2) = lab l x.1 by omega, show max (lab l x.1) (lab l x.2) = lab l x.2 by omega, ha, hb, hx]
      · rw [show min (lab l x.1) (lab l x.2) = lab l x.2 by omega, show max (lab l x.1) (lab l x.2) = lab l x.1 by omega, ha, hb, hx]
    · exact ih i
/-- all ends are nodes -/
def Ends (n : Int) (es : List E) : Prop := ∀ e ∈ es, 0 ≤ e.1 ∧ e.1 < n ∧ 0 ≤ e.2 ∧ e.2 < n ∧ e.1 ≠ e.2
theorem Ends.left {n : Int} {a b : List E} (h : Ends n (a ++ b)) : Ends n a := fun e he => h e (List.mem_append_left _ he)
theorem Ends.right {n : Int} {a b : List E} (h : Ends n (a ++ b)) : Ends n b := fun e he => h e (List.mem_append_right _ he)
theorem Ends.sub {n : Int} {a b : List E} (h : Ends n b) (s : ∀ e ∈ a, e ∈ b) : Ends n a := fun e he => h e (s e he)
theorem lab_le {n : Int} {es : List E} (h : Ends n es) : ∀ i, 0 ≤ i → 0 ≤ lab es i ∧ lab es i ≤ i := by
  induction es using snoc_ind with
  | h0 => intro i hi; exact ⟨hi, Int.le_refl _⟩
  | h1 l x ih =>
    intro i hi
    have ih := ih h.left
    have hx := h x (by simp)
    have h1 := ih x.1 hx.1
    have h2 := ih x.2 hx.2.2.1
    have h3 := ih i hi
    rw [lab_snoc]
    unfold mrg
    split <;> omega
theorem lab_zero {n : Int} {es : List E} (h : Ends n es) : lab es 0 = 0 := by
  have := lab_le h 0 (by omega); omega
/-- labels that are right are the labels -/
theorem lab_unique {n : Int} {es : List E} (he : Ends n es) (L : Int → Int) (hc : ∀ e ∈ es, L e.1 = L e.2) (hle : ∀ i, 0 ≤ i → i < n → 0 ≤ L i ∧ L i ≤ i) (hl : ∀ i, 0 ≤ i → i < n → lab es (L i) = lab es i) :
    ∀ i, 0 ≤ i → i < n → L i = lab es i := by
  intro i h0 h1
  have u := lab_U es L hc i
  have b := lab_le he i h0
  have c := hle (lab es i) b.1 (by omega)
  have d := hle i h0 h1
  have e := hl i h0 h1
  have f := lab_le he (L i) d.1
  omega
/-- more runs, the labels of fewer runs are kept together -/
theorem lab_sub {a b : List E} (s : ∀ e ∈ a, e ∈ b) (i : Int) : lab b (lab a i) = lab b i :=
  lab_U a (lab b) (fun _ he => lab_run (s _ he)) i
theorem lab_same {n : Int} {a b : List E} (hb : Ends n b) (s : ∀ e ∈ a, e ∈ b) (t : ∀ e ∈ b, e ∈ a) : ∀ i, 0 ≤ i → lab a i = lab b i := by
  intro i h0
  have x := lab_sub s i
  have y := lab_sub t i
  have p := lab_le hb i h0
  have q := lab_le (hb.sub s) i h0
  have r := lab_le hb (lab a i) q.1
  have z := lab_le (hb.sub s) (lab b i) p.1
  omega
/-- of a run that is turned -/
theorem lab_turn {n : Int} {a b : List E} (hb : Ends n b) (s : ∀ e ∈ a, e ∈ b ∨ (e.2, e.1) ∈ b) (t : ∀ e ∈ b, e ∈ a ∨ (e.2, e.1) ∈ a) : ∀ i, 0 ≤ i → lab a i = lab b i := by
  have ha : Ends n a := by
    intro e he
    rcases s e he with h | h
    · exact hb e h
    · have := hb _ h
      simp only at this
      exact ⟨this.2.2.1, this.2.2.2.1, this.1, this.2.1, fun z => this.2.2.2.2 z.symm⟩
  have c1 : ∀ e ∈ a, lab b e.1 = lab b e.2 := by
    intro e he
    rcases s e he with h | h
    · exact lab_run h
    · exact (lab_run h).symm
  have c2 : ∀ e ∈ b, lab a e.1 = lab a e.2 := by
    intro e he
    rcases t e he with h | h
    · exact lab_run h
    · exact (lab_run h).symm
  intro i h0
  have x := lab_U a (lab b) c1 i
  have y := lab_U b (lab a) c2 i
  have p := lab_le hb i h0
  have q := lab_le ha i h0
  have r := lab_le hb (lab a i) q.1
  have z := lab_le ha (lab b i) p.1
  omega
/-! the number of parts -/
def comps (n : Int) (es : List E) : Nat := (List.range n.toNat).countP (fun i : Nat => lab es i == (i : Int))
theorem countP_drop (p q : Nat → Bool) (m N : Nat) (hm : m < N) (hp : p m = true) (hq : ∀ i, i < N → q i = (p i && i != m)) : (List.range N).countP q + 1 = (List.range N).countP p := by
  induction N with
  | zero => omega
  | succ N ih =>
    rw [List.range_succ, List.countP_append, List.countP_append]
    simp only [List.countP_cons, List.countP_nil]
    by_cases h : m = N
    · subst h
      have e : (List.range m).countP q = (List.range m).countP p := by
        apply List.countP_congr
        intro i hi
        rw [List.mem_range] at hi
        rw [hq i (by omega)]
        have : (i != m) = true := by simp; omega
        rw [this, Bool.and_true]
      rw [e, hq m (by omega), hp]
      simp
    · have := ih (by omega) (fun i hi => hq i (by omega))
      have e : q N = p N := by
        rw [hq N (by omega)]
        have : (N != m) = true := by simp; omega
        rw [this, Bool.and_true]
      rw [e]
      omega
theorem comps_snoc {n : Int} {es : List E} {e : E} (h : Ends n (es ++ [e])) : comps n (es ++ [e]) + (if lab es e.1 = lab es e.2 then 0 else 1) = comps n es := by
  have he := h.left
  have hx := h e (by simp)
  by_cases hs : lab es e.1 = lab es e.2
  · rw [if_pos hs]
    unfold comps
    rw [lab_snoc, mrg_same hs]
    rfl
  · rw [if_neg hs]
    have b1 := lab_le he e.1 hx.1
    have b2 := lab_le he e.2 hx.2.2.1
    have i1 := lab_lab es e.1
    have i2 := lab_lab es e.2
    unfold comps
    refine countP_drop _ _ (max (lab es e.1) (lab es e.2)).toNat _ (by omega) ?_ ?_
    · rw [beq_iff_eq]
      rw [show (((max (lab es e.1) (lab es e.2)).toNat : Nat) : Int) = max (lab es e.1) (lab es e.2) by omega]
      rcases Int.le_total (lab es e.1) (lab es e.2) with z | z
      · rw [show max (lab es e.1) (lab es e.2) = lab es e.2 by omega, i2]
      · rw [show max (lab es e.1) (lab es e.2) = lab es e.1 by omega, i1]
    · intro i hi
      rw [lab_snoc, Bool.eq_iff_iff]
      simp only [beq_iff_eq, Bool.and_eq_true, bne_iff_ne, ne_eq]
      unfold mrg
      constructor
      · intro z
        split at z
        · rename_i zz
          exfalso
          rcases Int.le_total (lab es e.1) (lab es e.2) with y | y
          · have : (i : Int) = lab es e.1 := by omega
            rw [this, i1] at zz; omega
          · have : (i : Int) = lab es e.2 := by omega
            rw [this, i2] at zz; omega
        · rename_i zz
          refine ⟨z, fun y => zz ?_⟩
          rw [z, y]; omega
      · rintro ⟨z, y⟩
        rw [if_neg (by omega)]
        exact z
theorem comps_nil (n : Int) : comps n [] = n.toNat := by
  unfold comps
  have : (List.range n.toNat).countP (fun i : Nat => lab [] (i : Int) == (i : Int)) = (List.range n.toNat).length := by
    rw [List.countP_eq_length]
    intro i _
    simp [lab_nil]
  rw [this, List.length_range]
theorem comps_append {n : Int} {a b : List E} (h : Ends n (a ++ b)) : comps n (a ++ b) ≤ comps n a ∧ comps n a ≤ comps n (a ++ b) + b.length := by
  induction b using snoc_ind with
  | h0 => simp
  | h1 l x ih =>
    rw [← List.append_assoc] at h ⊢
    have s := comps_snoc h
    have i := ih h.left
    rw [List.length_append]
    simp only [List.length_cons, List.length_nil]
    split at s <;> omega
theorem comps_pos {n : Int} {es : List E} (h : Ends n es) (hn : 0 < n) : 0 < comps n es := by
  unfold comps
  rw [List.countP_pos_iff]
  exact ⟨0, by simp; omega, by simpa using lab_zero h⟩
def Whole (n : Int) (es : List E) : Prop := ∀ i, 0 ≤ i → i < n → lab es i = 0
theorem countP_one {p : Nat → Bool} {N : Nat} (h0 : p 0 = true) (hN : 0 < N) (h : (List.range N).countP p = 1) : ∀ i, i < N → p i = true → i = 0 := by
  induction N with
  | zero => omega
  | succ N ih =>
    rw [List.range_succ, List.countP_append] at h
    simp only [List.countP_cons, List.countP_nil] at h
    intro i hi hp
    by_cases hz : N = 0
    · omega
    · have c : 0 < (List.range N).countP p := by
        rw [List.countP_pos_iff]; exact ⟨0, by simp; omega, h0⟩
      by_cases e : i = N
      · subst e
        rw [if_pos hp] at h; omega
      · exact ih (by omega) (by split at h <;> omega) i (by omega) hp
theorem whole_iff {n : Int} {es : List E} (h : Ends n es) (hn : 0 < n) : Whole n es ↔ comps n es = 1 := by
  constructor
  · intro w
    unfold comps
    have key : ∀ N : Nat, 0 < N → (N : Int) ≤ n → (List.range N).countP (fun i : Nat => lab es i == (i : Int)) = 1 := by
      intro N
      induction N with
      | zero => omega
      | succ N ih =>
        intro _ hN
        rw [List.range_succ, List.countP_append]
        simp only [List.countP_cons, List.countP_nil]
        by_cases hz : N = 0
        · subst hz
          simp [lab_zero h]
        · rw [ih (by omega) (by omega), if_neg]
          rw [beq_iff_eq, w N (by omega) (by omega)]
          omega
    exact key _ (by omega) (by omega)
  · intro c i h0 h1
    have b := lab_le h i h0
    have r := lab_lab es i
    have := countP_one (p := fun i : Nat => lab es i == (i : Int)) (N := n.toNat) (by simpa using lab_zero h) (by omega) c (lab es i).toNat (by omega) (by
      rw [beq_iff_eq, show (((lab es i).toNat : Nat) : Int) = lab es i by omega]; exact r)
    omega
theorem Whole.mono {n : Int} {a b : List E} (hb : Ends n b) (s : ∀ e ∈ a, e ∈ b) (w : Whole n a) : Whole n b := by
  intro i h0 h1
  rw [← lab_sub s i, w i h0 h1, lab_zero hb]
/-- a test that no run crosses is the same at all nodes of a whole net -/
theorem Whole.const {X : Type} {n : Int} {es : List E} (w : Whole n es) (f : Int → X) (h : ∀ e ∈ es, f e.1 = f e.2) : ∀ i, 0 ≤ i → i < n → f i = f 0 := by
  intro i h0 h1
  rw [← lab_U es f h i, w i h0 h1]
end Go.Proofs.Ytbnndmkkmceenaa.Gr
/- The first tree of a net, and what its runs link. Plain Lean. -/
namespace Go.Proofs.Ytbnndmkkmceenaa.Gr
set_option linter.unusedVariables false
set_option linter.unusedSimpArgs false
def ed (es : List E) (k : Nat) : E := es.getD k (0, 0)
def pk (es : List E) (t : List Int) : List E := t.map (fun k => ed es k.toNat)
theorem ed_mem {es : List E} {k : Nat} (h : k < es.length) : ed es k ∈ es := by
  unfold ed; rw [List.getD_eq_getElem?_getD, List.getElem?_eq_getElem h]; exact List.getElem_mem h
theorem ed_left {es fs : List E} {k : Nat} (h : k < es.length) : ed (es ++ fs) k = ed es k := by
  unfold ed; rw [List.getD_eq_getElem?_getD, List.getD_eq_getElem?_getD, List.getElem?_append_left h]
theorem ed_last {es : List E} {e : E} : ed (es ++ [e]) es.length = e := by
  unfold ed; rw [List.getD_eq_getElem?_getD]; simp
theorem take_succ_ed {es : List E} {k : Nat} (h : k < es.length) : es.take (k + 1) = es.take k ++ [ed es k] := by
  rw [List.take_add_one, List.getElem?_eq_getElem h]
  unfold ed
  rw [List.getD_eq_getElem?_getD, List.getElem?_eq_getElem h]
  rfl
/-- the run k links more than the runs before it -/
def links (es : List E) (k : Nat) : Bool := lab (es.take k) (ed es k).1 != lab (es.take k) (ed es k).2
def firstN (es : List E) (m : Nat) : List Int := ((List.range m).filter (links es)).map (fun k : Nat => (k : Int))
def first (es : List E) : List Int := firstN es es.length
theorem firstN_succ (es : List E) (m : Nat) : firstN es (m + 1) = firstN es m ++ (if links es m then [(m : Int)] else []) := by
  unfold firstN
  rw [List.range_succ, List.filter_append, List.map_append]
  congr 1
  by_cases h : links es m = true <;> simp [h]
theorem firstN_mem {es : List E} {m : Nat} {k : Int} (h : k ∈ firstN es m) : 0 ≤ k ∧ k < m ∧ links es k.toNat = true := by
  unfold firstN at h
  obtain ⟨i, hi, rfl⟩ := List.mem_map.mp h
  obtain ⟨h1, h2⟩ := List.mem_filter.mp hi
  rw [List.mem_range] at h1
  refine ⟨by omega, by omega, ?_⟩
  simpa using h2
theorem mem_firstN {es : List E} {m k : Nat} (h : k < m) (l : links es k = true) : (k : Int) ∈ firstN es m := by
  unfold firstN
  exact List.mem_map.mpr ⟨k, List.mem_filter.mpr ⟨List.mem_range.mpr h, l⟩, rfl⟩
theorem links_take {es : List E} {m k : Nat} (h : k < m) : links (es.take m) k = links es k := by
  unfold links
  have : ed (es.take m) k = ed es k := by
    unfold ed
    rw [List.getD_eq_getElem?_getD, List.getD_eq_getElem?_getD, List.getElem?_take_of_lt h]
  rw [this, List.take_take, Nat.min_eq_left (by omega)]
theorem lab_firstN {n : Int} {es : List E} (he : Ends n es) (m : Nat) (hm : m ≤ es.length) : lab (pk es (firstN es m)) = lab (es.take m) ∧ ((firstN es m).length : Int) = n.toNat - comps n (es.take m) := by
  induction m with
  | zero =>
    have := comps_nil n
    unfold firstN pk
    simp [this]
  | succ m ih =>
    obtain ⟨i1, i2⟩ := ih (by omega)
    have hsub : Ends n (es.take (m + 1)) := he.sub (fun e h => List.mem_of_mem_take h)
    rw [take_succ_ed (by omega)] at hsub ⊢
    have c := comps_snoc hsub
    rw [firstN_succ]
    by_cases h : lab (es.take m) (ed es m).1 = lab (es.take m) (ed es m).2
    · have l : links es m = false := by unfold links; simpa using h
      rw [l]
      simp only [Bool.false_eq_true, if_false, List.append_nil]
      rw [if_pos h] at c
      rw [lab_snoc, mrg_same h, i1]
      exact ⟨rfl, by omega⟩
    · have l : links es m = true := by unfold links; simpa using h
      rw [l]
      simp only [if_true]
      rw [if_neg h] at c
      unfold pk at i1 ⊢
      rw [List.map_append, lab_snoc, List.length_append]
      simp only [List.map_cons, List.map_nil]
      rw [lab_snoc, i1]
      refine ⟨by simp, ?_⟩
      have := comps_append (a := []) (b := es.take m) hsub.left
      rw [comps_nil, List.nil_append] at this
      simp only [List.length_cons, List.length_nil]
      omega
theorem lab_first {n : Int} {es : List E} (he : Ends n es) : lab (pk es (first es)) = lab es := by
  have := (lab_firstN he es.length (Nat.le_refl _)).1
  rwa [List.take_length] at this
theorem first_length {n : Int} {es : List E} (he : Ends n es) (hn : 0 < n) (w : Whole n es) : ((first es).length : Int) = n - 1 := by
  have := (lab_firstN he es.length (Nat.le_refl _)).2
  rw [List.take_length, (whole_iff he hn).mp w] at this
  unfold first
  omega
/-- ascending indexes above last, below N -/
def asc (last : Int) (N : Int) : List Int → Bool
  | [] => true
  | k :: t => decide (last < k) && decide (k < N) && asc k N t
theorem asc_snoc {N : Int} : ∀ {t : List Int} {last k : Int}, asc last N t = true → (∀ x ∈ t, x < k) → last < k → k < N → asc last N (t ++ [k]) = true
  | [], last, k, _, _, h1, h2 => by simp [asc, h1, h2]
  | x :: t, last, k, h, hx, h1, h2 => by
    simp only [asc, Bool.and_eq_true, decide_eq_true_eq, List.cons_append] at h ⊢
    exact ⟨h.1, asc_snoc h.2 (fun y hy => hx y (List.mem_cons_of_mem _ hy)) (hx x (by simp)) h2⟩
theorem asc_firstN (es : List E) (N : Int) (m : Nat) (h : (m : Int) ≤ N) : asc (-1) N (firstN es m) = true := by
  induction m with
  | zero => rfl
  | succ m ih =>
    rw [firstN_succ]
    split
    · exact asc_snoc (ih (by omega)) (fun x hx => (firstN_mem hx).2.1) (by omega) (by omega)
    · rw [List.append_nil]; exact ih (by omega)
theorem asc_mem {N : Int} : ∀ {t : List Int} {last : Int}, asc last N t = true → ∀ x ∈ t, last < x ∧ x < N
  | [], _, _, x, hx => by cases hx
  | y :: t, last, h, x, hx => by
    simp only [asc, Bool.and_eq_true, decide_eq_true_eq] at h
    rcases List.mem_cons.mp hx with rfl | hx
    · exact h.1
    · have := asc_mem h.2 x hx; omega
theorem asc_append {N : Int} : ∀ {a b : List Int} {last : Int}, asc last N (a ++ b) = true → asc last N a = true ∧ (∀ x ∈ a, ∀ y ∈ b, x < y) ∧ asc last N b = true
  | [], b, last, h => ⟨rfl, (fun x hx => by cases hx), h⟩
  | k :: a, b, last, h => by
    simp only [asc, Bool.and_eq_true, decide_eq_true_eq, List.cons_append] at h ⊢
    obtain ⟨i1, i2, i3⟩ := asc_append h.2
    refine ⟨⟨h.1, i1⟩, ?_, ?_⟩
    · intro x hx y hy
      rcases List.mem_cons.mp hx with rfl | hx
      · exact (asc_mem h.2 y (List.mem_append_right _ hy)).1
      · exact i2 x hx y hy
    · cases b with
      | nil => rfl
      | cons y b =>
        simp only [asc, Bool.and_eq_true, decide_eq_true_eq] at i3 ⊢
        exact ⟨⟨by omega, i3.1.2⟩, i3.2⟩
theorem pk_mem {es : List E} {t : List Int} {last : Int} (hl : -1 ≤ last) (h : asc last es.length t = true) : ∀ e ∈ pk es t, e ∈ es := by
  intro e he
  unfold pk at he
  obtain ⟨k, hk, rfl⟩ := List.mem_map.mp he
  have := asc_mem h k hk
  exact ed_mem (by omega)
theorem first_asc (es : List E) : asc (-1) es.length (first es) = true := asc_firstN es _ _ (by omega)
theorem first_whole {n : Int} {es : List E} (he : Ends n es) (w : Whole n es) : Whole n (pk es (first es)) := by
  intro i h0 h1
  rw [lab_first he]; exact w i h0 h1
/-- what precedes an index in the first tree -/
theorem firstN_filter (es : List E) (k m : Nat) (h : k ≤ m) : (firstN es m).filter (fun x : Int => decide (x < (k : Int))) = firstN es k := by
  induction m with
  | zero => obtain rfl : k = 0 := by omega
            rfl
  | succ m ih =>
    by_cases hk : k = m + 1
    · subst hk
      rw [List.filter_eq_self]
      intro x hx
      have := firstN_mem hx
      simp; omega
    · rw [firstN_succ, List.filter_append, ih (by omega)]
      split
      · have : ((m : Int) < k) = False := by simp; omega
        simp [this]
      · simp
theorem split_filter {N : Int} {a b : List Int} {k last : Int} (_ : asc last N (a ++ b) = true) (ha : ∀ x ∈ a, x < k) (hb : ∀ x ∈ b, ¬ x < k) : (a ++ b).filter (fun x : Int => decide (x < k)) = a := by
  rw [List.filter_append]
  have h1 : a.filter (fun x => decide (x < k)) = a := by
    rw [List.filter_eq_self]; intro x hx; simpa using ha x hx
  have h2 : b.filter (fun x => decide (x < k)) = [] := by
    rw [List.filter_eq_nil_iff]; intro x hx; simpa using hb x hx
  rw [h1, h2, List.append_nil]
/-- no tree stands ahead of the first one -/
theorem first_least {n : Int} {es : List E} (he : Ends n es) (hn : 0 < n) (w : Whole n es) {a b : List Int} {c : Int} (h : first es = a ++ c :: b) {k : Nat} (hk : (k : Int) < c) (ha : ∀ x ∈ a, x < (k : Int))
    (hv : Ends n (pk es (a ++ (k : Int) :: b))) : ¬ Whole n (pk es (a ++ (k : Int) :: b)) := by
  have hs := first_asc es
  rw [h] at hs
  obtain ⟨_, h2, h3⟩ := asc_append hs
  have hc := asc_mem h3 c (by simp)
  have hf : firstN es k = a := by
    have e1 := firstN_filter es k es.length (by omega)
    rw [show firstN es es.length = a ++ c :: b from h] at e1
    rw [← e1]
    refine split_filter hs ha (fun x hx => ?_)
    rcases List.mem_cons.mp hx with rfl | hx
    · omega
    · simp only [asc, Bool.and_eq_true, decide_eq_true_eq] at h3
      have := asc_mem h3.2 x hx
      omega
  have hno : links es k = false := by
    cases e : links es k with
    | false => rfl
    | true =>
      have m : (k : Int) ∈ first es := mem_firstN (by omega) e
      rw [h] at m
      rcases List.mem_append.mp m with m | m
      · have := ha _ m; omega
      · rcases List.mem_cons.mp m with m | m
        · omega
        · simp only [asc, Bool.and_eq_true, decide_eq_true_eq] at h3
          have := asc_mem h3.2 _ m
          omega
  have hl : lab (es.take k) (ed es k).1 = lab (es.take k) (ed es k).2 := by
    unfold links at hno; simpa using hno
  have q := lab_firstN he k (by omega)
  rw [hf] at q
  intro W
  have hx : pk es (a ++ (k : Int) :: b) = (pk es a ++ [ed es k]) ++ pk es b := by
    unfold pk; simp
  rw [hx] at hv W
  have c1 := (whole_iff hv hn).mp W
  have c2 := comps_append hv
  have c3 := comps_snoc hv.left
  rw [if_pos (by rw [q.1]; exact hl)] at c3
  have c4 := comps_append (a := []) (b := pk es a) hv.left.left
  rw [comps_nil, List.nil_append] at c4
  have c5 := first_length he hn w
  rw [h, List.length_append] at c5
  simp only [List.length_cons] at c5
  have c6 : (pk es a).length = a.length := by unfold pk; simp
  have c7 : (pk es b).length = b.length := by unfold pk; simp
  omega
theorem first_k {n : Int} {es : List E} {k : Nat} (he : Ends n es) (hk : k ≤ es.length) : lab (pk es (firstN es k)) = lab (es.take k) := (lab_firstN he k hk).1
/-- runs in a number of one less than the nodes cannot be fewer and link all -/
theorem few_runs {n : Int} {es : List E} (he : Ends n es) (hn : 0 < n) (hl : (es.length : Int) + 1 < n) : ¬ Whole n es := by
  intro w
  have c1 := (whole_iff he hn).mp w
  have c2 := comps_append (a := []) (b := es) he
  rw [comps_nil, List.nil_append] at c2
  omega
end Go.Proofs.Ytbnndmkkmceenaa.Gr
/- Labels that are handed along the runs, round by round, become the labels of the net. Plain Lean. -/
namespace Go.Proofs.Ytbnndmkkmceenaa.Gr
set_option linter.unusedVariables false
set_option linter.unusedSimpArgs false
theorem gt_set {xs : List Int} {i j : Int} {v : Int} (hi : 0 ≤ i) (hl : i < xs.length) (hj : 0 ≤ j) : gt (xs.set i.toNat v) j = if j = i then v else gt xs j := by
  unfold gt
  rw [List.getD_eq_getElem?_getD, List.getD_eq_getElem?_getD, List.getElem?_set]
  by_cases h : j = i
  · subst h
    rw [if_pos rfl, if_pos (by omega), if_pos rfl]; rfl
  · rw [if_neg (by omega), if_neg h]
theorem gt_range (n : Nat) (f : Nat → Int) {j : Int} (h0 : 0 ≤ j) (h : j < n) : gt ((List.range n).map f) j = f j.toNat := by
  unfold gt
  rw [List.getD_eq_getElem?_getD, List.getElem?_map, List.getElem?_range (by omega)]; rfl
theorem gt_ext {n : Nat} {xs ys : List Int} (hx : xs.length = n) (hy : ys.length = n) (h : ∀ i : Int, 0 ≤ i → i < n → gt xs i = gt ys i) : xs = ys := by
  apply List.ext_getElem (by omega)
  intro i h1 h2
  have := h i (by omega) (by omega)
  unfold gt at this
  rw [List.getD_eq_getElem?_getD, List.getD_eq_getElem?_getD, Int.toNat_natCast, List.getElem?_eq_getElem h1, List.getElem?_eq_getElem h2] at this
  simpa using this
/-- the labels of a net as a list -/
def labs (n : Int) (es : List E) : List Int := (List.range n.toNat).map (fun i : Nat => lab es i)
theorem labs_length (n : Int) (es : List E) : (labs n es).length = n.toNat := by unfold labs; simp
theorem gt_labs {n : Int} (es : List E) {i : Int} (h0 : 0 ≤ i) (h : i < n) : gt (labs n es) i = lab es i := by
  unfold labs; rw [gt_range _ _ h0 (by omega), show ((i.toNat : Nat) : Int) = i by omega]
theorem eq_labs {n : Int} {es : List E} {xs : List Int} (h : xs.length = n.toNat) (g : ∀ i, 0 ≤ i → i < n → gt xs i = lab es i) : xs = labs n es :=
  gt_ext (n := n.toNat) h (labs_length n es) (fun i h0 h1 => by rw [g i h0 (by omega), gt_labs es h0 (by omega)])
def stepL (out : List Int) (e : E) : List Int := (out.set e.1.toNat (min (gt out e.1) (gt out e.2))).set e.2.toNat (min (gt out e.1) (gt out e.2))
structure PInv (n : Int) (es : List E) (out : List Int) : Prop where
  len : out.length = n.toNat
  low : ∀ i, 0 ≤ i → i < n → 0 ≤ gt out i ∧ gt out i ≤ i ∧ lab es (gt out i) = lab es i
def good (es : List E) (out : List Int) (i : Nat) : Bool := gt out i == lab es i
theorem gt_stepL {n : Int} {es : List E} {out : List Int} (h : PInv n es out) {e : E} (he : 0 ≤ e.1 ∧ e.1 < n ∧ 0 ≤ e.2 ∧ e.2 < n) {i : Int} (h0 : 0 ≤ i) : gt (stepL out e) i = if i = e.1 ∨ i = e.2 then min (gt out e.1) (gt out e.2) else gt out i := by
  have hl := h.len
  unfold stepL
  rw [gt_set (by omega) (by rw [List.length_set]; omega) h0, gt_set (by omega) (by omega) h0]
  by_cases h1 : i = e.2
  · rw [if_pos h1, if_pos (Or.inr h1)]
  · rw [if_neg h1]
    by_cases h2 : i = e.1
    · rw [if_pos h2, if_pos (Or.inl h2)]
    · rw [if_neg h2, if_neg (by omega)]
theorem PInv.ge {n : Int} {es : List E} {out : List Int} (he : Ends n es) (h : PInv n es out) {i : Int} (h0 : 0 ≤ i) (h1 : i < n) : lab es i ≤ gt out i := by
  have a := h.low i h0 h1
  have b := lab_le he (gt out i) a.1
  omega
theorem PInv.step1 {n : Int} {es : List E} {out : List Int} (he : Ends n es) (h : PInv n es out) {e : E} (hm : e ∈ es) : PInv n es (stepL out e) ∧ ∀ i : Nat, (i : Int) < n → good es out i = true → good es (stepL out e) i = true := by
  have x := he e hm
  have y := lab_run hm
  have z1 := h.low e.1 x.1 x.2.1
  have z2 := h.low e.2 x.2.2.1 x.2.2.2.1
  have g1 := h.ge he x.1 x.2.1
  have g2 := h.ge he x.2.2.1 x.2.2.2.1
  refine ⟨⟨by unfold stepL; rw [List.length_set, List.length_set]; exact h.len, ?_⟩, ?_⟩
  · intro i h0 h1
    rw [gt_stepL h ⟨x.1, x.2.1, x.2.2.1, x.2.2.2.1⟩ h0]
    have z := h.low i h0 h1
    split
    · rename_i c
      have q : lab es (min (gt out e.1) (gt out e.2)) = lab es e.1 := by
        rcases Int.le_total (gt out e.1) (gt out e.2) with w | w
        · rw [show min (gt out e.1) (gt out e.2) = gt out e.1 by omega]; exact z1.2.2
        · rw [show min (gt out e.1) (gt out e.2) = gt out e.2 by omega, z2.2.2, y]
      rcases c with c | c
      · subst c; exact ⟨by omega, by omega, q⟩
      · subst c; exact ⟨by omega, by omega, by rw [q, y]⟩
    · exact z
  · intro i hi hg
    unfold good at hg ⊢
    rw [beq_iff_eq] at hg ⊢
    rw [gt_stepL h ⟨x.1, x.2.1, x.2.2.1, x.2.2.2.1⟩ (by omega)]
    split
    · rename_i c
      rcases c with c | c
      · rw [c] at hg ⊢; omega
      · rw [c] at hg ⊢; omega
    · exact hg
theorem stepL_good {n : Int} {es : List E} {out : List Int} (he : Ends n es) (h : PInv n es out) {e : E} (hm : e ∈ es) (hg : gt out e.1 = lab es e.1 ∨ gt out e.2 = lab es e.2) : gt (stepL out e) e.1 = lab es e.1 ∧ gt (stepL out e) e.2 = lab es e.2 := by
  have x := he e hm
  have y := lab_run hm
  have g1 := h.ge he x.1 x.2.1
  have g2 := h.ge he x.2.2.1 x.2.2.2.1
  rw [gt_stepL h ⟨x.1, x.2.1, x.2.2.1, x.2.2.2.1⟩ x.1, gt_stepL h ⟨x.1, x.2.1, x.2.2.1, x.2.2.2.1⟩ x.2.2.1, if_pos (Or.inl rfl), if_pos (Or.inr rfl)]
  rcases hg with hg | hg <;> omega
theorem PInv.round {n : Int} {es : List E} (he : Ends n es) : ∀ (fs : List E) (out : List Int), (∀ e ∈ fs, e ∈ es) → PInv n es out → PInv n es (fs.foldl stepL out) ∧ (∀ i : Nat, (i : Int) < n → good es out i = true → good es (fs.foldl stepL out) i = true) ∧
    ∀ e ∈ fs, (gt out e.1 = lab es e.1 ∨ gt out e.2 = lab es e.2) → gt (fs.foldl stepL out) e.1 = lab es e.1 ∧ gt (fs.foldl stepL out) e.2 = lab es e.2
  | [], out, _, h => ⟨h, fun _ _ x => x, fun e he => by cases he⟩
  | f :: fs, out, hs, h => by
    have hf := hs f (by simp)
    have s := h.step1 he hf
    obtain ⟨r1, r2, r3⟩ := PInv.round he fs (stepL out f) (fun e hh => hs e (List.mem_cons_of_mem _ hh)) s.1
    have up : ∀ i : Nat, (i : Int) < n → good es out i = true → good es (fs.foldl stepL (stepL out f)) i = true := fun i hi hg => r2 i hi (s.2 i hi hg)
    refine ⟨r1, up, ?_⟩
    intro e hm hg
    have fin : ∀ i : Int, 0 ≤ i → i < n → gt (stepL out f) i = lab es i → gt (fs.foldl stepL (stepL out f)) i = lab es i := by
      intro i h0 h1 h2
      have := r2 i.toNat (by omega) (by unfold good; rw [beq_iff_eq, show ((i.toNat : Nat) : Int) = i by omega]; exact h2)
      unfold good at this
      rwa [beq_iff_eq, show ((i.toNat : Nat) : Int) = i by omega] at this
    rcases List.mem_cons.mp hm with rfl | hm
    · have x := he e hf
      have g := stepL_good he h hf hg
      exact ⟨fin _ x.1 x.2.1 g.1, fin _ x.2.2.1 x.2.2.2.1 g.2⟩
    · refine r3 e hm ?_
      have x := he e (hs e (List.mem_cons_of_mem _ hm))
      have g : ∀ i : Int, 0 ≤ i → i < n → gt out i = lab es i → gt (stepL out f) i = lab es i := by
        intro i h0 h1 h2
        have := s.2 i.toNat (by omega) (by unfold good; rw [beq_iff_eq, show ((i.toNat : Nat) : Int) = i by omega]; exact h2)
        unfold good at this
        rwa [beq_iff_eq, show ((i.toNat : Nat) : Int) = i by omega] at this
      rcases hg with hg | hg
      · exact Or.inl (g _ x.1 x.2.1 hg)
      · exact Or.inr (g _ x.2.2.1 x.2.2.2.1 hg)
theorem countP_lt {p q : Nat → Bool} : ∀ {N : Nat}, (∀ i, i < N → p i = true → q i = true) → (∃ i, i < N ∧ p i = false ∧ q i = true) → (List.range N).countP p < (List.range N).countP q
  | 0, _, ⟨i, hi, _⟩ => by omega
  | N + 1, h, ⟨i, hi, h1, h2⟩ => by
    rw [List.range_succ, List.countP_append, List.countP_append]
    simp only [List.countP_cons, List.countP_nil]
    have m : (List.range N).countP p ≤ (List.range N).countP q := by
      apply List.countP_mono_left
      intro x hx; rw [List.mem_range] at hx; exact h x (by omega)
    by_cases e : i = N
    · subst e
      rw [h1, h2]; simp; omega
    · have := countP_lt (N := N) (fun x hx => h x (by omega)) ⟨i, by omega, h1, h2⟩
      have z := h N (by omega)
      cases hp : p N with
      | true => rw [z hp]; omega
      | false =>
        simp only [Bool.false_eq_true, if_false]
        split <;> omega
def goods (n : Int) (es : List E) (out : List Int) : Nat := (List.range n.toNat).countP (good es out)
/-- a round makes one further label right, while one is wrong -/
theorem PInv.more {n : Int} {es : List E} {out : List Int} (he : Ends n es) (h : PInv n es out) : PInv n es (es.foldl stepL out) ∧ ((∀ i, 0 ≤ i → i < n → gt out i = lab es i) ∧ goods n es (es.foldl stepL out) = goods n es out ∨ goods n es out < goods n es (es.foldl stepL out)) := by
  obtain ⟨r1, r2, r3⟩ := PInv.round he es out (fun _ h => h) h
  refine ⟨r1, ?_⟩
  by_cases all : ∀ i, 0 ≤ i → i < n → gt out i = lab es i
  · left
    refine ⟨all, ?_⟩
    unfold goods
    apply List.countP_congr
    intro i hi
    rw [List.mem_range] at hi
    have g : good es out i = true := by unfold good; rw [beq_iff_eq]; exact all i (by omega) (by omega)
    rw [g, r2 i (by omega) g]
  · right
    have : ∃ i, 0 ≤ i ∧ i < n ∧ gt out i ≠ lab es i := by
      apply Classical.byContradiction
      intro hc
      exact all (fun i h0 h1 => Classical.byContradiction fun hx => hc ⟨i, h0, h1, hx⟩)
    obtain ⟨i, h0, h1, hb⟩ := this
    -- a run with one right end
    have cross : ∃ e ∈ es, (gt out e.1 = lab es e.1) ≠ (gt out e.2 = lab es e.2) := by
      apply Classical.byContradiction
      intro hc
      have u := lab_U es (fun i => decide (gt out i = lab es i)) (fun e hm => by
        have : (gt out e.1 = lab es e.1) = (gt out e.2 = lab es e.2) := Classical.byContradiction fun hx => hc ⟨e, hm, hx⟩
        simp only [this]) i
      have b := lab_le he i h0
      have l := h.low (lab es i) b.1 (by omega)
      have r := lab_lab es i
      have g := h.ge he b.1 (by omega)
      have : gt out (lab es i) = lab es (lab es i) := by omega
      simp only [this, decide_true] at u
      exact hb (of_decide_eq_true u.symm)
    obtain ⟨e, hm, hne⟩ := cross
    have x := he e hm
    refine countP_lt (fun j hj hg => r2 j (by omega) hg) ?_
    by_cases g1 : gt out e.1 = lab es e.1
    · have g2 : ¬ gt out e.2 = lab es e.2 := fun g2 => hne (by simp [g1, g2])
      refine ⟨e.2.toNat, by omega, ?_, ?_⟩
      · unfold good; rw [show ((e.2.toNat : Nat) : Int) = e.2 by omega]; simpa using g2
      · unfold good; rw [show ((e.2.toNat : Nat) : Int) = e.2 by omega, beq_iff_eq]; exact (r3 e hm (Or.inl g1)).2
    · have g2 : gt out e.2 = lab es e.2 := Classical.byContradiction fun g2 => hne (by simp [g1, g2])
      refine ⟨e.1.toNat, by omega, ?_, ?_⟩
      · unfold good; rw [show ((e.1.toNat : Nat) : Int) = e.1 by omega]; simpa using g1
      · unfold good; rw [show ((e.1.toNat : Nat) : Int) = e.1 by omega, beq_iff_eq]; exact (r3 e hm (Or.inr g2)).1
def rounds (es : List E) : Nat → List Int → List Int
  | 0, out => out
  | k + 1, out => rounds es k (es.foldl stepL out)
theorem goods_le (n : Int) (es : List E) (out : List Int) : goods n es out ≤ n.toNat := by
  unfold goods
  have := List.countP_le_length (p := good es out) (l := List.range n.toNat)
  rwa [List.length_range] at this
theorem all_good {n : Int} {es : List E} {out : List Int} (h : n.toNat ≤ goods n es out) : ∀ i, 0 ≤ i → i < n → gt out i = lab es i := by
  have e : goods n es out = (List.range n.toNat).length := by rw [List.length_range]; have := goods_le n es out; omega
  unfold goods at e
  rw [List.countP_eq_length] at e
  intro i h0 h1
  have := e i.toNat (by rw [List.mem_range]; omega)
  unfold good at this
  rwa [beq_iff_eq, show ((i.toNat : Nat) : Int) = i by omega] at this
theorem rounds_labs {n : Int} {es : List E} (he : Ends n es) : ∀ (k : Nat) (out : List Int), PInv n es out → n.toNat ≤ goods n es out + k → rounds es k out = labs n es
  | 0, out, h, hk => by
    show out = _
    exact eq_labs h.len (all_good (by omega))
  | k + 1, out, h, hk => by
    obtain ⟨m1, m2⟩ := h.more he
    refine rounds_labs he k _ m1 ?_
    rcases m2 with ⟨a, e⟩ | l
    · have : goods n es out = n.toNat := by
        unfold goods
        have : (List.range n.toNat).countP (good es out) = (List.range n.toNat).length := by
          rw [List.countP_eq_length]
          intro i hi; rw [List.mem_range] at hi
          unfold good; rw [beq_iff_eq]; exact a i (by omega) (by omega)
        rw [this, List.length_range]
      omega
    · omega
def idx (n : Int) : List Int := (List.range n.toNat).map (fun i : Nat => (i : Int))
theorem idx_inv (n : Int) (es : List E) : PInv n es (idx n) := by
  refine ⟨by unfold idx; simp, fun i h0 h1 => ?_⟩
  have : gt (idx n) i = i := by unfold idx; rw [gt_range _ _ h0 (by omega)]; omega
  rw [this]
  exact ⟨h0, by omega, rfl⟩
theorem rounds_idx {n : Int} {es : List E} (he : Ends n es) : rounds es n.toNat (idx n) = labs n es := rounds_labs he _ _ (idx_inv n es) (by omega)
end Go.Proofs.Ytbnndmkkmceenaa.Gr
/- The search along neighbors gives the labels of the net. Plain Lean. -/
namespace Go.Proofs.Ytbnndmkkmceenaa.Gr
set_option linter.unusedVariables false
set_option linter.unusedSimpArgs false
theorem mem_nb {es : List E} {v x : Int} : x ∈ nb es v ↔ ∃ e ∈ es, (e.1 = v ∧ e.2 = x) ∨ (e.2 = v ∧ e.1 = x) := by
  unfold nb
  rw [List.mem_flatMap]
  constructor
  · rintro ⟨e, he, hx⟩
    refine ⟨e, he, ?_⟩
    rcases List.mem_append.mp hx with h | h
    · split at h
      · rename_i c; left; exact ⟨c, (List.mem_singleton.mp h).symm⟩
      · cases h
    · split at h
      · rename_i c; right; exact ⟨c, (List.mem_singleton.mp h).symm⟩
      · cases h
  · rintro ⟨e, he, h⟩
    refine ⟨e, he, List.mem_append.mpr ?_⟩
    rcases h with ⟨rfl, rfl⟩ | ⟨rfl, rfl⟩
    · left; simp
    · right; simp
def least (k : Nat) (n : Int) (es : List E) : Option (List Int) := if 0 ≤ n then sts es n k k 0 (List.replicate n.toNat (-1)) else none
/-! what holds -/
structure DI (n : Int) (es : List E) (s : Int) (L : List Int) : Prop where
  len : L.length = n.toNat
  val : ∀ i, 0 ≤ i → i < n → gt L i = -1 ∨ (0 ≤ gt L i ∧ gt L i ≤ i ∧ gt L i ≤ s ∧ lab es (gt L i) = lab es i)
  all : ∀ i, 0 ≤ i → i < s → i < n → 0 ≤ gt L i
def Cl (es : List E) (L : List Int) (i : Int) : Prop := ∀ x ∈ nb es i, gt L x = gt L i
structure DO (n : Int) (es : List E) (s : Int) (L o : List Int) (v : Int) : Prop extends DI n es s L where
  at_s : gt L s = s
  opn : ∀ x ∈ o, 0 ≤ x ∧ x < n ∧ gt L x = s
  cl : ∀ i, 0 ≤ i → i < n → 0 ≤ gt L i → i ∉ o → i ≠ v → Cl es L i
def unl (n : Int) (L : List Int) : Nat := (List.range n.toNat).countP (fun i : Nat => decide (gt L i < 0))
theorem nb_lab {es : List E} {v x : Int} (h : x ∈ nb es v) : lab es x = lab es v := by
  obtain ⟨e, he, h⟩ := mem_nb.mp h
  have := lab_run he
  rcases h with ⟨rfl, rfl⟩ | ⟨rfl, rfl⟩
  · exact this.symm
  · exact this
theorem nb_symm {es : List E} {v x : Int} (h : x ∈ nb es v) : v ∈ nb es x := by
  obtain ⟨e, he, h⟩ := mem_nb.mp h
  refine mem_nb.mpr ⟨e, he, ?_⟩
  rcases h with ⟨rfl, rfl⟩ | ⟨rfl, rfl⟩
  · right; exact ⟨rfl, rfl⟩
  · left; exact ⟨rfl, rfl⟩
theorem nb_in {n : Int} {es : List E} (he : Ends n es) {v x : Int} (h : x ∈ nb es v) : 0 ≤ x ∧ x < n := by
  obtain ⟨e, hm, h⟩ := mem_nb.mp h
  have := he e hm
  rcases h with ⟨rfl, rfl⟩ | ⟨rfl, rfl⟩ <;> omega
theorem unl_set {n : Int} {L : List Int} {x s : Int} (hl : L.length = n.toNat) (h0 : 0 ≤ x) (h1 : x < n) (hx : gt L x < 0) (hs : 0 ≤ s) : unl n (L.set x.toNat s) + 1 = unl n L := by
  unfold unl
  refine countP_drop _ _ x.toNat _ (by omega) (by simpa [show ((x.toNat : Nat) : Int) = x by omega] using hx) ?_
  intro i hi
  rw [gt_set h0 (by omega) (by omega)]
  by_cases e : (i : Int) = x
  · rw [if_pos e]
    have h1 : decide (s < 0) = false := by simp; omega
    have h2 : (i != x.toNat) = false := by simp; omega
    rw [h1, h2, Bool.and_false]
  · rw [if_neg e]
    have h2 : (i != x.toNat) = true := by simp; omega
    rw [h2, Bool.and_true]
theorem inn_ok {n : Int} {es : List E} (he : Ends n es) {s v : Int} (hs : 0 ≤ s) (hsn : s < n) : ∀ (xs : List Int) (L o : List Int), (∀ x ∈ xs, x ∈ nb es v) → lab es v = lab es s → (∀ i, 0 ≤ i → i < n → gt L i < 0 → s ≤ i) → DO n es s L o v → gt L v = s → o.length + 2 * unl n L ≤ 900000 →
    ∃ L' o', inn s xs L o = some (L', o') ∧ DO n es s L' o' v ∧ gt L' v = s ∧ o'.length + 2 * unl n L' ≤ o.length + 2 * unl n L ∧ (∀ x, 0 ≤ x → x < n → 0 ≤ gt L x → gt L' x = gt L x) ∧ (∀ x ∈ xs, 0 ≤ gt L' x)
  | [], L, o, _, _, _, h, hv, _ => ⟨L, o, rfl, h, hv, Nat.le_refl _, fun _ _ _ _ => rfl, fun x hx => by cases hx⟩
  | x :: xs, L, o, hx, hlv, hsi, h, hv, hb => by
    have hxn := hx x (by simp)
    have hin := nb_in he hxn
    have hlen := h.len
    unfold inn
    rw [if_pos ⟨hin.1, by omega⟩]
    by_cases hneg : gt L x < 0
    · rw [if_pos hneg]
      have hu := unl_set hlen hin.1 hin.2 hneg hs
      rw [if_pos (by omega)]
      have hg : ∀ i, 0 ≤ i → gt (L.set x.toNat s) i = if i = x then s else gt L i := fun i h0 => gt_set hin.1 (by omega) h0
      have hxv : x ≠ v := by rintro rfl; omega
      have hxs : x ≠ s := by rintro rfl; have := h.at_s; omega
      have hD : DO n es s (L.set x.toNat s) (o ++ [x]) v := by
        refine ⟨⟨by rw [List.length_set]; exact hlen, ?_, ?_⟩, ?_, ?_, ?_⟩
        · intro i h0 h1
          rw [hg i h0]
          split
          · rename_i c
            right
            subst c
            exact ⟨hs, hsi i h0 h1 hneg, Int.le_refl _, by rw [nb_lab hxn, hlv]⟩
          · exact h.val i h0 h1
        · intro i h0 h1 h2
          rw [hg i h0]
          split
          · exact hs
          · exact h.all i h0 h1 h2
        · rw [hg s hs, if_neg (fun z => hxs z.symm)]; exact h.at_s
        · intro y hy
          rcases List.mem_append.mp hy with hy | hy
          · have z := h.opn y hy
            refine ⟨z.1, z.2.1, ?_⟩
            rw [hg y z.1]
            split
            · rfl
            · exact z.2.2
          · obtain rfl : y = x := by simpa using hy
            exact ⟨hin.1, hin.2, by rw [hg y hin.1, if_pos rfl]⟩
        · intro i h0 h1 h2 h3 h4
          have hix : i ≠ x := fun z => h3 (by rw [z]; simp)
          rw [hg i h0, if_neg hix] at h2
          have hcl := h.cl i h0 h1 h2 (fun z => h3 (List.mem_append_left _ z)) h4
          intro y hy
          have hyn := nb_in he hy
          rw [hg y hyn.1, hg i h0, if_neg hix]
          split
          · rename_i c
            subst c
            have := hcl y hy
            omega
          · exact hcl y hy
      have hv2 : gt (L.set x.toNat s) v = s := by
        by_cases hv0 : 0 ≤ v
        · rw [hg v hv0, if_neg (fun z => hxv z.symm)]; exact hv
        · have := nb_in he (nb_symm hxn); omega
      obtain ⟨L', o', e1, e2, e3, e4, e5, e6⟩ := inn_ok he hs hsn xs (L.set x.toNat s) (o ++ [x]) (fun y hy => hx y (List.mem_cons_of_mem _ hy)) hlv (fun i h0 h1 h2 => by
        rw [hg i h0] at h2
        split at h2
        · omega
        · exact hsi i h0 h1 h2) hD hv2 (by rw [List.length_append]; simp only [List.length_cons, List.length_nil]; omega)
      refine ⟨L', o', e1, e2, e3, ?_, ?_, ?_⟩
      · rw [List.length_append] at e4
        simp only [List.length_cons, List.length_nil] at e4
        omega
      · intro y h0 h1 h2
        have hyx : y ≠ x := by rintro rfl; omega
        have := e5 y h0 h1 (by rw [hg y h0, if_neg hyx]; exact h2)
        rw [this, hg y h0, if_neg hyx]
      · intro y hy
        rcases List.mem_cons.mp hy with rfl | hy
        · have := e5 y hin.1 hin.2 (by rw [hg y hin.1, if_pos rfl]; exact hs)
          rw [this, hg y hin.1, if_pos rfl]; exact hs
        · exact e6 y hy
    · rw [if_neg hneg]
      obtain ⟨L', o', e1, e2, e3, e4, e5, e6⟩ := inn_ok he hs hsn xs L o (fun y hy => hx y (List.mem_cons_of_mem _ hy)) hlv hsi h hv hb
      refine ⟨L', o', e1, e2, e3, e4, e5, ?_⟩
      intro y hy
      rcases List.mem_cons.mp hy with rfl | hy
      · rw [e5 y hin.1 hin.2 (by omega)]; omega
      · exact e6 y hy
theorem take_last {o : List Int} (h : 0 < o.length) : o = o.take ((o.length : Int) - 1).toNat ++ [gt o ((o.length : Int) - 1)] := by
  have e : ((o.length : Int) - 1).toNat = o.length - 1 := by omega
  unfold gt
  rw [e, List.getD_eq_getElem?_getD, List.getElem?_eq_getElem (by omega), Option.getD_some]
  conv => lhs; rw [← List.take_append_drop (o.length - 1) o]
  congr 1
  rw [List.drop_eq_getElem_cons (by omega), List.drop_eq_nil_of_le (by omega)]
theorem whl_ok {n : Int} {es : List E} (he : Ends n es) {s : Int} (hs : 0 ≤ s) (hsn : s < n) : ∀ (k : Nat) (L o : List Int), (∀ i, 0 ≤ i → i < n → gt L i < 0 → s ≤ i) → DO n es s L o (-1) → o.length + 2 * unl n L < k → o.length + 2 * unl n L ≤ 900000 →
    ∃ L', whl es s k L o = some L' ∧ DO n es s L' [] (-1) ∧ (∀ i, 0 ≤ i → i < n → gt L' i < 0 → s ≤ i)
  | 0, L, o, _, _, hk, _ => by omega
  | k + 1, L, o, hsi, h, hk, hb => by
    unfold whl
    by_cases ho : (o.length : Int) > 0
    · rw [if_pos ho]
      have ht := take_last (o := o) (by omega)
      generalize hv : gt o ((o.length : Int) - 1) = v at *
      generalize hp : o.take ((o.length : Int) - 1).toNat = p at *
      have hvo : v ∈ o := by rw [ht]; simp
      have z := h.opn v hvo
      have hlv : lab es v = lab es s := by
        have := h.val v z.1 z.2.1
        rw [z.2.2] at this
        rcases this with w | w
        · omega
        · exact w.2.2.2.symm
      have hol : o.length = p.length + 1 := by
        have := congrArg List.length ht
        rw [List.length_append] at this
        simpa using this
      have hD : DO n es s L p v := by
        refine ⟨h.toDI, h.at_s, fun x hx => h.opn x (by rw [ht]; simp [hx]), ?_⟩
        intro i h0 h1 h2 h3 h4
        refine h.cl i h0 h1 h2 ?_ (by omega)
        rw [ht]
        intro hi
        rcases List.mem_append.mp hi with hi | hi
        · exact h3 hi
        · exact h4 (by simpa using hi)
      obtain ⟨L', o', e1, e2, e3, e4, e5, e6⟩ := inn_ok he hs hsn (nb es v) L p (fun _ hx => hx) hlv hsi hD z.2.2 (by omega)
      rw [e1, Option.bind_some]
      have hsi' : ∀ i, 0 ≤ i → i < n → gt L' i < 0 → s ≤ i := by
        intro i h0 h1 h2
        by_cases hg : gt L i < 0
        · exact hsi i h0 h1 hg
        · have := e5 i h0 h1 (by omega); omega
      have hD2 : DO n es s L' o' (-1) := by
        refine ⟨e2.toDI, e2.at_s, e2.opn, ?_⟩
        intro i h0 h1 h2 h3 _
        by_cases hiv : i = v
        · subst hiv
          intro x hx
          have hxn := nb_in he hx
          have hx0 := e6 x hx
          rw [e3]
          by_cases hxs : gt L' x = s
          · exact hxs
          · exfalso
            have hxo : x ∉ o' := fun hm => hxs (e2.opn x hm).2.2
            have hxv : x ≠ i := by rintro rfl; exact hxs e3
            have := e2.cl x hxn.1 hxn.2 hx0 hxo hxv i (nb_symm hx)
            omega
        · exact e2.cl i h0 h1 h2 h3 hiv
      obtain ⟨L2, f1, f2, f3⟩ := whl_ok he hs hsn k L' o' hsi' hD2 (by omega) (by omega)
      exact ⟨L2, f1, f2, f3⟩
    · rw [if_neg ho]
      have : o = [] := List.length_eq_zero_iff.mp (by omega)
      subst this
      exact ⟨L, rfl, h, hsi⟩
structure SI (n : Int) (es : List E) (s : Int) (L : List Int) : Prop where
  len : L.length = n.toNat
  val : ∀ i, 0 ≤ i → i < n → gt L i = -1 ∨ (0 ≤ gt L i ∧ gt L i ≤ i ∧ gt L i < s ∧ lab es (gt L i) = lab es i)
  all : ∀ i, 0 ≤ i → i < s → i < n → 0 ≤ gt L i
  cl : ∀ i, 0 ≤ i → i < n → 0 ≤ gt L i → Cl es L i
theorem unl_le (n : Int) (L : List Int) : unl n L ≤ n.toNat := by
  unfold unl
  have := List.countP_le_length (p := fun i : Nat => decide (gt L i < 0)) (l := List.range n.toNat)
  rwa [List.length_range] at this
theorem sts_ok {n : Int} {es : List E} (he : Ends n es) (hn : n ≤ 1000) {k : Nat} (hk : 2 * n.toNat + 3 ≤ k) : ∀ (j : Nat) (s : Int) (L : List Int), 0 ≤ s → s ≤ n → SI n es s L → (n - s).toNat < j → sts es n k j s L = some (labs n es)
  | 0, s, L, _, _, _, hj => by omega
  | j + 1, s, L, hs, hsn, h, hj => by
    unfold sts
    by_cases hlt : s < n
    · have hlen := h.len
      rw [if_pos hlt, if_pos ⟨hs, by omega⟩]
      by_cases hg : gt L s ≥ 0
      · rw [if_pos hg]
        refine sts_ok he hn hk j (s + 1) L (by omega) (by omega) ⟨hlen, ?_, ?_, h.cl⟩ (by omega)
        · intro i h0 h1
          rcases h.val i h0 h1 with v | v
          · exact Or.inl v
          · exact Or.inr ⟨v.1, v.2.1, by omega, v.2.2.2⟩
        · intro i h0 h1 h2
          by_cases e : i = s
          · subst e; exact hg
          · exact h.all i h0 (by omega) h2
      · rw [if_neg hg]
        have hset : ∀ i, 0 ≤ i → gt (L.set s.toNat s) i = if i = s then s else gt L i := fun i h0 => gt_set hs (by omega) h0
        have hu := unl_set hlen hs hlt (by omega : gt L s < 0) hs
        have hul := unl_le n L
        obtain ⟨L', w1, w2, w3⟩ := whl_ok he hs hlt k (L.set s.toNat s) [s] (by
            intro i h0 h1 h2
            rw [hset i h0] at h2
            split at h2
            · omega
            · apply Classical.byContradiction
              intro c
              have := h.all i h0 (by omega) h1
              omega)
          (by
            refine ⟨⟨by rw [List.length_set]; exact hlen, ?_, ?_⟩, ?_, ?_, ?_⟩
            · intro i h0 h1
              rw [hset i h0]
              split
              · rename_i c; subst c; right; exact ⟨hs, Int.le_refl _, Int.le_refl _, rfl⟩
              · rcases h.val i h0 h1 with v | v
                · exact Or.inl v
                · exact Or.inr ⟨v.1, v.2.1, by omega, v.2.2.2⟩
            · intro i h0 h1 h2
              rw [hset i h0]
              split
              · exact hs
              · exact h.all i h0 h1 h2
            · rw [hset s hs, if_pos rfl]
            · intro x hx
              obtain rfl : x = s := by simpa using hx
              exact ⟨hs, hlt, by rw [hset x hs, if_pos rfl]⟩
            · intro i h0 h1 h2 h3 _
              have his : i ≠ s := by simpa using h3
              rw [hset i h0, if_neg his] at h2
              intro x hx
              have hxn := nb_in he hx
              have hc := h.cl i h0 h1 h2 x hx
              rw [hset x hxn.1, hset i h0, if_neg his]
              split
              · rename_i c; subst c; omega
              · exact hc)
          (by simp only [List.length_cons, List.length_nil]; omega) (by simp only [List.length_cons, List.length_nil]; omega)
        rw [w1, Option.bind_some]
        refine sts_ok he hn hk j (s + 1) L' (by omega) (by omega) ⟨w2.len, ?_, ?_, ?_⟩ (by omega)
        · intro i h0 h1
          rcases w2.val i h0 h1 with v | v
          · exact Or.inl v
          · exact Or.inr ⟨v.1, v.2.1, by omega, v.2.2.2⟩
        · intro i h0 h1 h2
          by_cases e : i = s
          · subst e; rw [w2.at_s]; exact hs
          · exact w2.all i h0 (by omega) h2
        · intro i h0 h1 h2
          exact w2.cl i h0 h1 h2 (by simp) (by omega)
    · rw [if_neg hlt]
      obtain rfl : s = n := by omega
      congr 1
      refine eq_labs h.len ?_
      have hall : ∀ i, 0 ≤ i → i < s → 0 ≤ gt L i := fun i h0 h1 => h.all i h0 h1 h1
      refine lab_unique he (gt L) ?_ ?_ ?_
      · intro e hm
        have x := he e hm
        have c := h.cl e.1 x.1 x.2.1 (hall _ x.1 x.2.1) e.2 (mem_nb.mpr ⟨e, hm, Or.inl ⟨rfl, rfl⟩⟩)
        exact c.symm
      · intro i h0 h1
        rcases h.val i h0 h1 with v | v
        · have := hall i h0 h1; omega
        · exact ⟨v.1, v.2.1⟩
      · intro i h0 h1
        rcases h.val i h0 h1 with v | v
        · have := hall i h0 h1; omega
        · exact v.2.2.2
theorem gt_replicate {n : Nat} {i : Int} (h0 : 0 ≤ i) (h : i < n) : gt (List.replicate n (-1)) i = -1 := by
  unfold gt
  rw [List.getD_eq_getElem?_getD, List.getElem?_replicate, if_pos (by omega)]; rfl
theorem least_labs {n : Int} {es : List E} (he : Ends n es) (h0 : 0 ≤ n) (hn : n ≤ 1000) {k : Nat} (hk : 2 * n.toNat + 3 ≤ k) : least k n es = some (labs n es) := by
  unfold least
  rw [if_pos h0]
  refine sts_ok he hn hk k 0 _ (by omega) h0 ⟨by simp, ?_, ?_, ?_⟩ (by omega)
  · intro i h0 h1; left; exact gt_replicate h0 (by omega)
  · intro i h0 h1 _; omega
  · intro i h0 h1 h2
    rw [gt_replicate h0 (by omega)] at h2; omega
end Go.Proofs.Ytbnndmkkmceenaa.Gr
/- All lists of so many indexes, in order, and the trees among them. Plain Lean. -/
namespace Go.Proofs.Ytbnndmkkmceenaa.Gr
set_option linter.unusedVariables false
set_option linter.unusedSimpArgs false
def sub : Nat → List Int → List (List Int)
  | 0, _ => [[]]
  | _ + 1, [] => []
  | s + 1, k :: ks => (sub s ks).map (k :: ·) ++ sub (s + 1) ks
theorem sub_length_mem : ∀ {s : Nat} {l t : List Int}, t ∈ sub s l → t.length = s
  | 0, l, t, h => by
    have : t = [] := by cases l <;> simpa [sub] using h
    subst this; rfl
  | s + 1, [], t, h => by simp [sub] at h
  | s + 1, k :: ks, t, h => by
    unfold sub at h
    rcases List.mem_append.mp h with h | h
    · obtain ⟨u, hu, rfl⟩ := List.mem_map.mp h
      simp [sub_length_mem hu]
    · exact sub_length_mem h
theorem sub_mem_mem : ∀ {s : Nat} {l t : List Int}, t ∈ sub s l → ∀ x ∈ t, x ∈ l
  | 0, l, t, h, x, hx => by
    have : t = [] := by cases l <;> simpa [sub] using h
    subst this; cases hx
  | s + 1, [], t, h, x, hx => by simp [sub] at h
  | s + 1, k :: ks, t, h, x, hx => by
    unfold sub at h
    rcases List.mem_append.mp h with h | h
    · obtain ⟨u, hu, rfl⟩ := List.mem_map.mp h
      rcases List.mem_cons.mp hx with rfl | hx
      · simp
      · exact List.mem_cons_of_mem _ (sub_mem_mem hu x hx)
    · exact List.mem_cons_of_mem _ (sub_mem_mem h x hx)
theorem sub_count : ∀ (s : Nat) (l : List Int), (sub s l).length ≤ 2 ^ l.length
  | 0, l => by
    have := Nat.one_le_two_pow (n := l.length)
    cases l <;> simp [sub] <;> exact this
  | s + 1, [] => by simp [sub]
  | s + 1, k :: ks => by
    unfold sub
    rw [List.length_append, List.length_map, List.length_cons, Nat.pow_succ]
    have := sub_count s ks
    have := sub_count (s + 1) ks
    omega
/-- the numbers from i on, below i + d -/
def upto (i : Int) : Nat → List Int
  | 0 => []
  | d + 1 => i :: upto (i + 1) d
theorem upto_length : ∀ (d : Nat) (i : Int), (upto i d).length = d
  | 0, _ => rfl
  | d + 1, i => by simp [upto, upto_length d]
theorem mem_upto : ∀ {d : Nat} {i x : Int}, x ∈ upto i d ↔ i ≤ x ∧ x < i + d
  | 0, i, x => by
    simp only [upto, List.not_mem_nil, false_iff]
    omega
  | d + 1, i, x => by
    unfold upto
    rw [List.mem_cons, mem_upto]; omega
theorem upto_snoc : ∀ (d : Nat) (i : Int), upto i (d + 1) = upto i d ++ [i + d]
  | 0, i => by simp [upto]
  | d + 1, i => by
    rw [upto, upto_snoc d]
    simp only [upto, List.cons_append]
    rw [show i + 1 + (d : Int) = i + ((d + 1 : Nat) : Int) by omega]
theorem sub_asc : ∀ {s d : Nat} {i last N : Int} {t : List Int}, t ∈ sub s (upto i d) → last < i → i + d ≤ N → asc last N t = true
  | 0, d, i, last, N, t, h, _, _ => by
    have : t = [] := by cases hu : upto i d <;> rw [hu] at h <;> simpa [sub] using h
    subst this; rfl
  | s + 1, 0, i, last, N, t, h, _, _ => by simp [sub, upto] at h
  | s + 1, d + 1, i, last, N, t, h, h1, h2 => by
    unfold upto sub at h
    rcases List.mem_append.mp h with h | h
    · obtain ⟨u, hu, rfl⟩ := List.mem_map.mp h
      simp only [asc, Bool.and_eq_true, decide_eq_true_eq]
      exact ⟨⟨h1, by omega⟩, sub_asc hu (by omega) (by omega)⟩
    · exact sub_asc h (by omega) (by omega)
theorem asc_sub : ∀ {d : Nat} {i last : Int} {t : List Int}, asc last (i + d) t = true → i ≤ last + 1 → (∀ x ∈ t, i ≤ x) → t ∈ sub t.length (upto i d)
  | d, i, last, [], _, _, _ => by
    cases hu : upto i d <;> simp [sub]
  | 0, i, last, k :: t, h, h1, hx => by
    simp only [asc, Bool.and_eq_true, decide_eq_true_eq] at h
    have := hx k (by simp)
    omega
  | d + 1, i, last, k :: t, h, h1, hx => by
    unfold upto
    rw [List.length_cons]
    unfold sub
    rw [List.mem_append]
    simp only [asc, Bool.and_eq_true, decide_eq_true_eq] at h
    have hk := hx k (by simp)
    by_cases e : k = i
    · left
      subst e
      refine List.mem_map.mpr ⟨t, ?_, rfl⟩
      refine asc_sub (last := k) ?_ (by omega) (fun x hm => by have := asc_mem h.2 x hm; omega)
      rw [show k + 1 + (d : Int) = k + ((d + 1 : Nat) : Int) by omega]
      exact h.2
    · right
      have := asc_sub (d := d) (i := i + 1) (last := i) (t := k :: t) (by
        simp only [asc, Bool.and_eq_true, decide_eq_true_eq]
        rw [show i + 1 + (d : Int) = i + ((d + 1 : Nat) : Int) by omega]
        exact ⟨⟨by omega, h.1.2⟩, h.2⟩) (by omega) (fun x hm => by
          rcases List.mem_cons.mp hm with rfl | hm
          · omega
          · have := asc_mem h.2 x hm; omega)
      exact this
theorem sub_countP (p : List Int → Bool) : ∀ (s : Nat) (l : List Int) (x : Int), (sub s l).countP p ≤ (sub s (l ++ [x])).countP p
  | 0, l, x => by cases l <;> simp [sub]
  | s + 1, [], x => by simp [sub]
  | s + 1, k :: ks, x => by
    simp only [List.cons_append, sub, List.countP_append, List.countP_map]
    have := sub_countP (p ∘ (k :: ·)) s ks x
    have := sub_countP p (s + 1) ks x
    omega
theorem sub_short : ∀ {s : Nat} {l : List Int}, l.length < s → sub s l = []
  | 0, l, h => by omega
  | s + 1, [], _ => rfl
  | s + 1, k :: ks, h => by
    rw [List.length_cons] at h
    unfold sub
    rw [sub_short (by omega), sub_short (by omega)]; rfl
theorem sub_full : ∀ (l : List Int), sub l.length l = [l]
  | [] => rfl
  | k :: ks => by
    rw [List.length_cons]
    unfold sub
    rw [sub_full ks, sub_short (by omega)]; rfl
/-- whether runs link all nodes, as a test -/
def wholeB (n : Int) (es : List E) : Bool := (List.range n.toNat).all (fun i : Nat => lab es i == 0)
theorem wholeB_iff {n : Int} {es : List E} : wholeB n es = true ↔ Whole n es := by
  unfold wholeB Whole
  rw [List.all_eq_true]
  constructor
  · intro h i h0 h1
    have := h i.toNat (by rw [List.mem_range]; omega)
    rw [beq_iff_eq, show ((i.toNat : Nat) : Int) = i by omega] at this
    exact this
  · intro h i hi
    rw [List.mem_range] at hi
    rw [beq_iff_eq]; exact h i (by omega) (by omega)
/-- the trees of a net, in order -/
def trees (n : Int) (es : List E) : List (List Int) := (sub (n - 1).toNat (upto 0 es.length)).filter (fun t => wholeB n (pk es t))
theorem trees_spec {n : Int} {es : List E} {t : List Int} (h : t ∈ trees n es) : t.length = (n - 1).toNat ∧ asc (-1) es.length t = true ∧ Whole n (pk es t) := by
  obtain ⟨h1, h2⟩ := List.mem_filter.mp h
  exact ⟨sub_length_mem h1, sub_asc h1 (by omega) (by omega), wholeB_iff.mp h2⟩
theorem mem_trees {n : Int} {es : List E} {t : List Int} (h1 : t.length = (n - 1).toNat) (h2 : asc (-1) es.length t = true) (h3 : Whole n (pk es t)) : t ∈ trees n es := by
  refine List.mem_filter.mpr ⟨?_, wholeB_iff.mpr h3⟩
  rw [← h1]
  exact asc_sub (last := -1) (by rw [Int.zero_add]; exact h2) (by omega) (fun x hx => by have := asc_mem h2 x hx; omega)
theorem trees_whole {n : Int} {es : List E} (he : Ends n es) (hn : 0 < n) : 0 < (trees n es).length ↔ Whole n es := by
  constructor
  · intro h
    obtain ⟨t, ht⟩ := List.exists_mem_of_length_pos h
    obtain ⟨_, h2, h3⟩ := trees_spec ht
    exact Whole.mono he (pk_mem (by omega) h2) h3
  · intro w
    have := mem_trees (n := n) (es := es) (t := first es) (by have := first_length he hn w; omega) (first_asc es) (first_whole he w)
    exact List.length_pos_of_mem this
theorem trees_one {n : Int} {es : List E} (hn : 0 < n) (h : (es.length : Int) = n - 1) : (trees n es).length ≤ 1 := by
  unfold trees
  have e : (n - 1).toNat = (upto 0 es.length).length := by rw [upto_length]; omega
  rw [e, sub_full]
  exact Nat.le_trans (List.length_filter_le _ _) (by simp)
theorem trees_less {n : Int} {es : List E} {e : E} : (trees n es).length ≤ (trees n (es ++ [e])).length := by
  unfold trees
  rw [← List.countP_eq_length_filter, ← List.countP_eq_length_filter, List.length_append]
  simp only [List.length_cons, List.length_nil]
  rw [upto_snoc]
  refine Nat.le_trans ?_ (sub_countP _ _ _ _)
  apply Nat.le_of_eq
  apply List.countP_congr
  intro t ht
  have hm := sub_mem_mem ht
  have : pk (es ++ [e]) t = pk es t := by
    unfold pk
    apply List.map_congr_left
    intro k hk
    have := mem_upto.mp (hm k hk)
    exact ed_left (by omega)
  rw [this]
theorem trees_count (n : Int) (es : List E) : (trees n es).length ≤ 2 ^ es.length := by
  unfold trees
  refine Nat.le_trans (List.length_filter_le _ _) ?_
  have := sub_count (n - 1).toNat (upto 0 es.length)
  rwa [upto_length] at this
/-! sums of products of weights -/
def prod (W : Int → Int) (t : List Int) : Int := (t.map W).foldl (· * ·) 1
theorem foldl_mul (l : List Int) (a : Int) : l.foldl (· * ·) a = a * l.foldl (· * ·) 1 := by
  induction l generalizing a with
  | nil => simp
  | cons x l ih => rw [List.foldl_cons, List.foldl_cons, ih, ih (1 * x), Int.one_mul, Int.mul_assoc]
theorem prod_cons (W : Int → Int) (k : Int) (t : List Int) : prod W (k :: t) = W k * prod W t := by
  unfold prod
  rw [List.map_cons, List.foldl_cons, foldl_mul, Int.one_mul]
theorem prod_one {W : Int → Int} : ∀ {t : List Int}, (∀ k ∈ t, W k = 1) → prod W t = 1
  | [], _ => rfl
  | k :: t, h => by rw [prod_cons, h k (by simp), prod_one (fun x hx => h x (List.mem_cons_of_mem _ hx))]; rfl
theorem prod_two {W V : Int → Int} : ∀ {t : List Int}, (∀ k ∈ t, V k = 2 * W k) → prod V t = 2 ^ t.length * prod W t
  | [], _ => rfl
  | k :: t, h => by
    rw [prod_cons, prod_cons, h k (by simp), prod_two (fun x hx => h x (List.mem_cons_of_mem _ hx)), List.length_cons, Int.pow_succ]
    grind
theorem prod_bound {W : Int → Int} {B : Int} (hB : 1 ≤ B) : ∀ {t : List Int}, (∀ k ∈ t, 1 ≤ W k ∧ W k ≤ B) → 1 ≤ prod W t ∧ prod W t ≤ B ^ t.length
  | [], _ => by simp [prod]
  | k :: t, h => by
    have x := h k (by simp)
    have y := prod_bound hB (t := t) (fun z hz => h z (List.mem_cons_of_mem _ hz))
    rw [prod_cons, List.length_cons, Int.pow_succ]
    constructor
    · have := Int.mul_le_mul x.1 y.1 (by omega) (by omega)
      omega
    · have := Int.mul_le_mul x.2 y.2 (by omega) (by omega)
      rw [Int.mul_comm (B ^ t.length)]; exact this
def wsum (W : Int → Int) (l : List (List Int)) : Int := (l.map (prod W)).sum
theorem wsum_cons (W : Int → Int) (t : List Int) (l : List (List Int)) : wsum W (t :: l) = prod W t + wsum W l := by unfold wsum; simp
theorem wsum_one {W : Int → Int} : ∀ {l : List (List Int)}, (∀ t ∈ l, ∀ k ∈ t, W k = 1) → wsum W l = l.length
  | [], _ => rfl
  | t :: l, h => by
    rw [wsum_cons, prod_one (h t (by simp)), wsum_one (fun x hx => h x (List.mem_cons_of_mem _ hx)), List.length_cons]; omega
theorem wsum_two {W V : Int → Int} {s : Nat} : ∀ {l : List (List Int)}, (∀ t ∈ l, t.length = s ∧ ∀ k ∈ t, V k = 2 * W k) → wsum V l = 2 ^ s * wsum W l
  | [], _ => by simp [wsum]
  | t :: l, h => by
    have x := h t (by simp)
    rw [wsum_cons, wsum_cons, prod_two x.2, x.1, wsum_two (fun x hx => h x (List.mem_cons_of_mem _ hx)), Int.mul_add]
theorem wsum_bound {W : Int → Int} {B : Int} {s : Nat} (hB : 1 ≤ B) : ∀ {l : List (List Int)}, (∀ t ∈ l, t.length = s ∧ ∀ k ∈ t, 1 ≤ W k ∧ W k ≤ B) → (l.length : Int) ≤ wsum W l ∧ wsum W l ≤ l.length * B ^ s
  | [], _ => by simp [wsum]
  | t :: l, h => by
    have x := h t (by simp)
    have y := prod_bound hB x.2
    have z := wsum_bound hB (l := l) (fun x hx => h x (List.mem_cons_of_mem _ hx))
    rw [x.1] at y
    rw [wsum_cons, List.length_cons]
    have e : (((l.length + 1 : Nat) : Int)) * B ^ s = l.length * B ^ s + B ^ s := by
      rw [show ((l.length + 1 : Nat) : Int) = (l.length : Int) + 1 by omega, Int.add_mul, Int.one_mul]
    rw [e]
    omega
end Go.Proofs.Ytbnndmkkmceenaa.Gr
namespace Go.Proofs.Ytbnndmkkmceenaa.Gr
set_option linter.unusedVariables false
set_option linter.unusedSimpArgs false
abbrev R := Int × Int × Int
def eds (rs : List R) : List E := rs.map (fun r => (r.1, r.2.1))
theorem eds_append (a b : List R) : eds (a ++ b) = eds a ++ eds b := by unfold eds; simp
theorem eds_mem {rs : List R} {r : R} (h : r ∈ rs) : (r.1, r.2.1) ∈ eds rs := List.mem_map.mpr ⟨r, h, rfl⟩
theorem eds_length (rs : List R) : (eds rs).length = rs.length := by unfold eds; simp
/-- a height of each node, as the runs ask -/
def Pot (rs : List R) (P : Int → Int) : Prop := ∀ r ∈ rs, P r.2.1 - P r.1 = r.2.2
theorem ed_eds {rs : List R} (k : Nat) : ed (eds rs) k = ((rs.getD k (0, 0, 0)).1, (rs.getD k (0, 0, 0)).2.1) := by
  unfold ed eds
  rw [List.getD_eq_getElem?_getD, List.getD_eq_getElem?_getD, List.getElem?_map]
  cases rs[k]? <;> rfl
end Go.Proofs.Ytbnndmkkmceenaa.Gr
