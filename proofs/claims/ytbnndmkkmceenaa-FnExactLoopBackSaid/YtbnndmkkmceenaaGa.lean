/- Labels of a net: the least linked node of each node, by merging along the runs one by one. Plain Lean. -/
namespace Go.Proofs.Ytbnndmkkmceenaa.Gr
set_option linter.unusedVariables false
set_option linter.unusedSimpArgs false
abbrev E := Int × Int
theorem snoc_ind {α : Type} {P : List α → Prop} (h0 : P []) (h1 : ∀ l x, P l → P (l ++ [x])) : ∀ l, P l := by
  intro l
  have key : ∀ m : List α, P m.reverse := by
    intro m
    induction m with
    | nil => exact h0
    | cons x m ih => rw [List.reverse_cons]; exact h1 _ _ ih
  have := key l.reverse
  rwa [List.reverse_reverse] at this
def mrg (L : Int → Int) (a b : Int) : Int → Int := fun i => if L i = max (L a) (L b) then min (L a) (L b) else L i
def lab (es : List E) : Int → Int := es.foldl (fun L e => mrg L e.1 e.2) id
theorem lab_nil : lab [] = id := rfl
theorem lab_snoc (es : List E) (e : E) : lab (es ++ [e]) = mrg (lab es) e.1 e.2 := by
  unfold lab; rw [List.foldl_append]; rfl
theorem mrg_same {L : Int → Int} {a b : Int} (h : L a = L b) : mrg L a b = L := by
  funext i; unfold mrg; rw [h]; split <;> omega
theorem mrg_comm (L : Int → Int) (a b : Int) : mrg L a b = mrg L b a := by
  funext i; unfold mrg; rw [Int.max_comm, Int.min_comm]
theorem mrg_const {L : Int → Int} {a b i j : Int} (h : L i = L j) : mrg L a b i = mrg L a b j := by
  unfold mrg; rw [h]
theorem mrg_ends (L : Int → Int) (a b : Int) : mrg L a b a = mrg L a b b := by
  unfold mrg; split <;> split <;> omega
theorem lab_run {es : List E} {e : E} (h : e ∈ es) : lab es e.1 = lab es e.2 := by
  induction es using snoc_ind with
  | h0 => cases h
  | h1 l x ih =>
    rw [lab_snoc]
    rcases List.mem_append.mp h with h | h
    · exact mrg_const (ih h)
    · obtain rfl : e = x := by simpa using h
      exact mrg_ends _ _ _
theorem lab_lab (es : List E) : ∀ i, lab es (lab es i) = lab es i := by
  induction es using snoc_ind with
  | h0 => intro i; rfl
  | h1 l x ih =>
    intro i
    rw [lab_snoc]
    have ha := ih x.1
    have hb := ih x.2
    have hi := ih i
    generalize lab l = L at *
    unfold mrg
    generalize x.1 = a at *
    generalize x.2 = b at *
    by_cases hm : L i = max (L a) (L b)
    · rw [if_pos hm]
      rcases Int.le_total (L a) (L b) with h | h
      · rw [show min (L a) (L b) = L a by omega, ha]; split <;> omega
      · rw [show min (L a) (L b) = L b by omega, hb]; split <;> omega
    · rw [if_neg hm, hi, if_neg hm]
theorem lab_U {X : Type} (es : List E) (f : Int → X) (h : ∀ e ∈ es, f e.1 = f e.2) : ∀ i, f (lab es i) = f i := by
  induction es using snoc_ind with
  | h0 => intro i; rfl
  | h1 l x ih =>
    have ih := ih (fun e he => h e (List.mem_append_left _ he))
    have hx := h x (by simp)
    intro i
    rw [lab_snoc]
    unfold mrg
    have ha := ih x.1
    have hb := ih x.2
    split
    · rename_i hm
      rw [← ih i, hm]
      rcases Int.le_total (lab l x.1) (lab l x.2) with h | h
      · rw [show min (lab l x.1) (lab l x.2) = lab l x.1 by omega, show max (lab l x.1) (lab l x.2) = lab l x.2 by omega, ha, hb, hx]
      · rw [show min (lab l x.1) (lab l x.2) = lab l x.2 by omega, show max (lab l x.1) (lab l x.2) = lab l x.1 by omega, ha, hb, hx]
    · exact ih i
/-- all ends are nodes -/
def Ends (n : Int) (es : List E) : Prop := ∀ e ∈ es, 0 ≤ e.1 ∧ e.1 < n ∧ 0 ≤ e.2 ∧ e.2 < n ∧ e.1 ≠ e.2
theorem Ends.left {n : Int} {a b : List E} (h : Ends n (a ++ b)) : Ends n a := fun e he => h e (List.mem_append_left _ he)
theorem Ends.right {n : Int} {a b : List E} (h : Ends n (a ++ b)) : Ends n b := fun e he => h e (List.mem_append_right _ he)
theorem Ends.sub {n : Int} {a b : List E} (h : Ends n b) (s : ∀ e ∈ a, e ∈ b) : Ends n a := fun e he => h e (s e he)
theorem lab_le {n : Int} {es : List E} (h : Ends n es) : ∀ i, 0 ≤ i → 0 ≤ lab es i ∧ lab es i ≤ i := by
  induction es using snoc_ind with
  | h0 => intro i hi; exact ⟨hi, Int.le_refl _⟩
  | h1 l x ih =>
    intro i hi
    have ih := ih h.left
    have hx := h x (by simp)
    have h1 := ih x.1 hx.1
    have h2 := ih x.2 hx.2.2.1
    have h3 := ih i hi
    rw [lab_snoc]
    unfold mrg
    split <;> omega
theorem lab_zero {n : Int} {es : List E} (h : Ends n es) : lab es 0 = 0 := by
  have := lab_le h 0 (by omega); omega
/-- labels that are right are the labels -/
theorem lab_unique {n : Int} {es : List E} (he : Ends n es) (L : Int → Int) (hc : ∀ e ∈ es, L e.1 = L e.2) (hle : ∀ i, 0 ≤ i → i < n → 0 ≤ L i ∧ L i ≤ i) (hl : ∀ i, 0 ≤ i → i < n → lab es (L i) = lab es i) :
    ∀ i, 0 ≤ i → i < n → L i = lab es i := by
  intro i h0 h1
  have u := lab_U es L hc i
  have b := lab_le he i h0
  have c := hle (lab es i) b.1 (by omega)
  have d := hle i h0 h1
  have e := hl i h0 h1
  have f := lab_le he (L i) d.1
  omega
/-- more runs, the labels of fewer runs are kept together -/
theorem lab_sub {a b : List E} (s : ∀ e ∈ a, e ∈ b) (i : Int) : lab b (lab a i) = lab b i :=
  lab_U a (lab b) (fun _ he => lab_run (s _ he)) i
theorem lab_same {n : Int} {a b : List E} (hb : Ends n b) (s : ∀ e ∈ a, e ∈ b) (t : ∀ e ∈ b, e ∈ a) : ∀ i, 0 ≤ i → lab a i = lab b i := by
  intro i h0
  have x := lab_sub s i
  have y := lab_sub t i
  have p := lab_le hb i h0
  have q := lab_le (hb.sub s) i h0
  have r := lab_le hb (lab a i) q.1
  have z := lab_le (hb.sub s) (lab b i) p.1
  omega
/-- of a run that is turned -/
theorem lab_turn {n : Int} {a b : List E} (hb : Ends n b) (s : ∀ e ∈ a, e ∈ b ∨ (e.2, e.1) ∈ b) (t : ∀ e ∈ b, e ∈ a ∨ (e.2, e.1) ∈ a) : ∀ i, 0 ≤ i → lab a i = lab b i := by
  have ha : Ends n a := by
    intro e he
    rcases s e he with h | h
    · exact hb e h
    · have := hb _ h
      simp only at this
      exact ⟨this.2.2.1, this.2.2.2.1, this.1, this.2.1, fun z => this.2.2.2.2 z.symm⟩
  have c1 : ∀ e ∈ a, lab b e.1 = lab b e.2 := by
    intro e he
    rcases s e he with h | h
    · exact lab_run h
    · exact (lab_run h).symm
  have c2 : ∀ e ∈ b, lab a e.1 = lab a e.2 := by
    intro e he
    rcases t e he with h | h
    · exact lab_run h
    · exact (lab_run h).symm
  intro i h0
  have x := lab_U a (lab b) c1 i
  have y := lab_U b (lab a) c2 i
  have p := lab_le hb i h0
  have q := lab_le ha i h0
  have r := lab_le hb (lab a i) q.1
  have z := lab_le ha (lab b i) p.1
  omega
/-! the number of parts -/
def comps (n : Int) (es : List E) : Nat := (List.range n.toNat).countP (fun i : Nat => lab es i == (i : Int))
theorem countP_drop (p q : Nat → Bool) (m N : Nat) (hm : m < N) (hp : p m = true) (hq : ∀ i, i < N → q i = (p i && i != m)) : (List.range N).countP q + 1 = (List.range N).countP p := by
  induction N with
  | zero => omega
  | succ N ih =>
    rw [List.range_succ, List.countP_append, List.countP_append]
    simp only [List.countP_cons, List.countP_nil]
    by_cases h : m = N
    · subst h
      have e : (List.range m).countP q = (List.range m).countP p := by
        apply List.countP_congr
        intro i hi
        rw [List.mem_range] at hi
        rw [hq i (by omega)]
        have : (i != m) = true := by simp; omega
        rw [this, Bool.and_true]
      rw [e, hq m (by omega), hp]
      simp
    · have := ih (by omega) (fun i hi => hq i (by omega))
      have e : q N = p N := by
        rw [hq N (by omega)]
        have : (N != m) = true := by simp; omega
        rw [this, Bool.and_true]
      rw [e]
      omega
theorem comps_snoc {n : Int} {es : List E} {e : E} (h : Ends n (es ++ [e])) : comps n (es ++ [e]) + (if lab es e.1 = lab es e.2 then 0 else 1) = comps n es := by
  have he := h.left
  have hx := h e (by simp)
  by_cases hs : lab es e.1 = lab es e.2
  · rw [if_pos hs]
    unfold comps
    rw [lab_snoc, mrg_same hs]
    rfl
  · rw [if_neg hs]
    have b1 := lab_le he e.1 hx.1
    have b2 := lab_le he e.2 hx.2.2.1
    have i1 := lab_lab es e.1
    have i2 := lab_lab es e.2
    unfold comps
    refine countP_drop _ _ (max (lab es e.1) (lab es e.2)).toNat _ (by omega) ?_ ?_
    · rw [beq_iff_eq]
      rw [show (((max (lab es e.1) (lab es e.2)).toNat : Nat) : Int) = max (lab es e.1) (lab es e.2) by omega]
      rcases Int.le_total (lab es e.1) (lab es e.2) with z | z
      · rw [show max (lab es e.1) (lab es e.2) = lab es e.2 by omega, i2]
      · rw [show max (lab es e.1) (lab es e.2) = lab es e.1 by omega, i1]
    · intro i hi
      rw [lab_snoc, Bool.eq_iff_iff]
      simp only [beq_iff_eq, Bool.and_eq_true, bne_iff_ne, ne_eq]
      unfold mrg
      constructor
      · intro z
        split at z
        · rename_i zz
          exfalso
          rcases Int.le_total (lab es e.1) (lab es e.2) with y | y
          · have : (i : Int) = lab es e.1 := by omega
            rw [this, i1] at zz; omega
          · have : (i : Int) = lab es e.2 := by omega
            rw [this, i2] at zz; omega
        · rename_i zz
          refine ⟨z, fun y => zz ?_⟩
          rw [z, y]; omega
      · rintro ⟨z, y⟩
        rw [if_neg (by omega)]
        exact z
theorem comps_nil (n : Int) : comps n [] = n.toNat := by
  unfold comps
  have : (List.range n.toNat).countP (fun i : Nat => lab [] (i : Int) == (i : Int)) = (List.range n.toNat).length := by
    rw [List.countP_eq_length]
    intro i _
    simp [lab_nil]
  rw [this, List.length_range]
theorem comps_append {n : Int} {a b : List E} (h : Ends n (a ++ b)) : comps n (a ++ b) ≤ comps n a ∧ comps n a ≤ comps n (a ++ b) + b.length := by
  induction b using snoc_ind with
  | h0 => simp
  | h1 l x ih =>
    rw [← List.append_assoc] at h ⊢
    have s := comps_snoc h
    have i := ih h.left
    rw [List.length_append]
    simp only [List.length_cons, List.length_nil]
    split at s <;> omega
theorem comps_pos {n : Int} {es : List E} (h : Ends n es) (hn : 0 < n) : 0 < comps n es := by
  unfold comps
  rw [List.countP_pos_iff]
  exact ⟨0, by simp; omega, by simpa using lab_zero h⟩
def Whole (n : Int) (es : List E) : Prop := ∀ i, 0 ≤ i → i < n → lab es i = 0
theorem countP_one {p : Nat → Bool} {N : Nat} (h0 : p 0 = true) (hN : 0 < N) (h : (List.range N).countP p = 1) : ∀ i, i < N → p i = true → i = 0 := by
  induction N with
  | zero => omega
  | succ N ih =>
    rw [List.range_succ, List.countP_append] at h
    simp only [List.countP_cons, List.countP_nil] at h
    intro i hi hp
    by_cases hz : N = 0
    · omega
    · have c : 0 < (List.range N).countP p := by
        rw [List.countP_pos_iff]; exact ⟨0, by simp; omega, h0⟩
      by_cases e : i = N
      · subst e
        rw [if_pos hp] at h; omega
      · exact ih (by omega) (by split at h <;> omega) i (by omega) hp
theorem whole_iff {n : Int} {es : List E} (h : Ends n es) (hn : 0 < n) : Whole n es ↔ comps n es = 1 := by
  constructor
  · intro w
    unfold comps
    have key : ∀ N : Nat, 0 < N → (N : Int) ≤ n → (List.range N).countP (fun i : Nat => lab es i == (i : Int)) = 1 := by
      intro N
      induction N with
      | zero => omega
      | succ N ih =>
        intro _ hN
        rw [List.range_succ, List.countP_append]
        simp only [List.countP_cons, List.countP_nil]
        by_cases hz : N = 0
        · subst hz
          simp [lab_zero h]
        · rw [ih (by omega) (by omega), if_neg]
          rw [beq_iff_eq, w N (by omega) (by omega)]
          omega
    exact key _ (by omega) (by omega)
  · intro c i h0 h1
    have b := lab_le h i h0
    have r := lab_lab es i
    have := countP_one (p := fun i : Nat => lab es i == (i : Int)) (N := n.toNat) (by simpa using lab_zero h) (by omega) c (lab es i).toNat (by omega) (by
      rw [beq_iff_eq, show (((lab es i).toNat : Nat) : Int) = lab es i by omega]; exact r)
    omega
theorem Whole.mono {n : Int} {a b : List E} (hb : Ends n b) (s : ∀ e ∈ a, e ∈ b) (w : Whole n a) : Whole n b := by
  intro i h0 h1
  rw [← lab_sub s i, w i h0 h1, lab_zero hb]
/-- a test that no run crosses is the same at all nodes of a whole net -/
theorem Whole.const {X : Type} {n : Int} {es : List E} (w : Whole n es) (f : Int → X) (h : ∀ e ∈ es, f e.1 = f e.2) : ∀ i, 0 ≤ i → i < n → f i = f 0 := by
  intro i h0 h1
  rw [← lab_U es f h i, w i h0 h1]
end Go.Proofs.Ytbnndmkkmceenaa.Gr
