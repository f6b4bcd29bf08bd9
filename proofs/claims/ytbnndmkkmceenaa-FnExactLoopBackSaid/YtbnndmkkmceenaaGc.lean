import Derived.Test.YtbnndmkkmceenaaGb
/- Labels that are handed along the runs, round by round, become the labels of the net. Plain Lean. -/
namespace Go.Proofs.Ytbnndmkkmceenaa.Gr
set_option linter.unusedVariables false
set_option linter.unusedSimpArgs false
def gt (xs : List Int) (i : Int) : Int := xs.getD i.toNat 0
theorem gt_set {xs : List Int} {i j : Int} {v : Int} (hi : 0 ≤ i) (hl : i < xs.length) (hj : 0 ≤ j) : gt (xs.set i.toNat v) j = if j = i then v else gt xs j := by
  unfold gt
  rw [List.getD_eq_getElem?_getD, List.getD_eq_getElem?_getD, List.getElem?_set]
  by_cases h : j = i
  · subst h
    rw [if_pos rfl, if_pos (by omega), if_pos rfl]; rfl
  · rw [if_neg (by omega), if_neg h]
theorem gt_range (n : Nat) (f : Nat → Int) {j : Int} (h0 : 0 ≤ j) (h : j < n) : gt ((List.range n).map f) j = f j.toNat := by
  unfold gt
  rw [List.getD_eq_getElem?_getD, List.getElem?_map, List.getElem?_range (by omega)]; rfl
theorem gt_ext {n : Nat} {xs ys : List Int} (hx : xs.length = n) (hy : ys.length = n) (h : ∀ i : Int, 0 ≤ i → i < n → gt xs i = gt ys i) : xs = ys := by
  apply List.ext_getElem (by omega)
  intro i h1 h2
  have := h i (by omega) (by omega)
  unfold gt at this
  rw [List.getD_eq_getElem?_getD, List.getD_eq_getElem?_getD, Int.toNat_natCast, List.getElem?_eq_getElem h1, List.getElem?_eq_getElem h2] at this
  simpa using this
/-- the labels of a net as a list -/
def labs (n : Int) (es : List E) : List Int := (List.range n.toNat).map (fun i : Nat => lab es i)
theorem labs_length (n : Int) (es : List E) : (labs n es).length = n.toNat := by unfold labs; simp
theorem gt_labs {n : Int} (es : List E) {i : Int} (h0 : 0 ≤ i) (h : i < n) : gt (labs n es) i = lab es i := by
  unfold labs; rw [gt_range _ _ h0 (by omega), show ((i.toNat : Nat) : Int) = i by omega]
theorem eq_labs {n : Int} {es : List E} {xs : List Int} (h : xs.length = n.toNat) (g : ∀ i, 0 ≤ i → i < n → gt xs i = lab es i) : xs = labs n es :=
  gt_ext (n := n.toNat) h (labs_length n es) (fun i h0 h1 => by rw [g i h0 (by omega), gt_labs es h0 (by omega)])
def stepL (out : List Int) (e : E) : List Int := (out.set e.1.toNat (min (gt out e.1) (gt out e.2))).set e.2.toNat (min (gt out e.1) (gt out e.2))
structure PInv (n : Int) (es : List E) (out : List Int) : Prop where
  len : out.length = n.toNat
  low : ∀ i, 0 ≤ i → i < n → 0 ≤ gt out i ∧ gt out i ≤ i ∧ lab es (gt out i) = lab es i
def good (es : List E) (out : List Int) (i : Nat) : Bool := gt out i == lab es i
theorem gt_stepL {n : Int} {es : List E} {out : List Int} (h : PInv n es out) {e : E} (he : 0 ≤ e.1 ∧ e.1 < n ∧ 0 ≤ e.2 ∧ e.2 < n) {i : Int} (h0 : 0 ≤ i) : gt (stepL out e) i = if i = e.1 ∨ i = e.2 then min (gt out e.1) (gt out e.2) else gt out i := by
  have hl := h.len
  unfold stepL
  rw [gt_set (by omega) (by rw [List.length_set]; omega) h0, gt_set (by omega) (by omega) h0]
  by_cases h1 : i = e.2
  · rw [if_pos h1, if_pos (Or.inr h1)]
  · rw [if_neg h1]
    by_cases h2 : i = e.1
    · rw [if_pos h2, if_pos (Or.inl h2)]
    · rw [if_neg h2, if_neg (by omega)]
theorem PInv.ge {n : Int} {es : List E} {out : List Int} (he : Ends n es) (h : PInv n es out) {i : Int} (h0 : 0 ≤ i) (h1 : i < n) : lab es i ≤ gt out i := by
  have a := h.low i h0 h1
  have b := lab_le he (gt out i) a.1
  omega
theorem PInv.step1 {n : Int} {es : List E} {out : List Int} (he : Ends n es) (h : PInv n es out) {e : E} (hm : e ∈ es) : PInv n es (stepL out e) ∧ ∀ i : Nat, (i : Int) < n → good es out i = true → good es (stepL out e) i = true := by
  have x := he e hm
  have y := lab_run hm
  have z1 := h.low e.1 x.1 x.2.1
  have z2 := h.low e.2 x.2.2.1 x.2.2.2.1
  have g1 := h.ge he x.1 x.2.1
  have g2 := h.ge he x.2.2.1 x.2.2.2.1
  refine ⟨⟨by unfold stepL; rw [List.length_set, List.length_set]; exact h.len, ?_⟩, ?_⟩
  · intro i h0 h1
    rw [gt_stepL h ⟨x.1, x.2.1, x.2.2.1, x.2.2.2.1⟩ h0]
    have z := h.low i h0 h1
    split
    · rename_i c
      have q : lab es (min (gt out e.1) (gt out e.2)) = lab es e.1 := by
        rcases Int.le_total (gt out e.1) (gt out e.2) with w | w
        · rw [show min (gt out e.1) (gt out e.2) = gt out e.1 by omega]; exact z1.2.2
        · rw [show min (gt out e.1) (gt out e.2) = gt out e.2 by omega, z2.2.2, y]
      rcases c with c | c
      · subst c; exact ⟨by omega, by omega, q⟩
      · subst c; exact ⟨by omega, by omega, by rw [q, y]⟩
    · exact z
  · intro i hi hg
    unfold good at hg ⊢
    rw [beq_iff_eq] at hg ⊢
    rw [gt_stepL h ⟨x.1, x.2.1, x.2.2.1, x.2.2.2.1⟩ (by omega)]
    split
    · rename_i c
      rcases c with c | c
      · rw [c] at hg ⊢; omega
      · rw [c] at hg ⊢; omega
    · exact hg
theorem stepL_good {n : Int} {es : List E} {out : List Int} (he : Ends n es) (h : PInv n es out) {e : E} (hm : e ∈ es) (hg : gt out e.1 = lab es e.1 ∨ gt out e.2 = lab es e.2) : gt (stepL out e) e.1 = lab es e.1 ∧ gt (stepL out e) e.2 = lab es e.2 := by
  have x := he e hm
  have y := lab_run hm
  have g1 := h.ge he x.1 x.2.1
  have g2 := h.ge he x.2.2.1 x.2.2.2.1
  rw [gt_stepL h ⟨x.1, x.2.1, x.2.2.1, x.2.2.2.1⟩ x.1, gt_stepL h ⟨x.1, x.2.1, x.2.2.1, x.2.2.2.1⟩ x.2.2.1, if_pos (Or.inl rfl), if_pos (Or.inr rfl)]
  rcases hg with hg | hg <;> omega
theorem PInv.round {n : Int} {es : List E} (he : Ends n es) : ∀ (fs : List E) (out : List Int), (∀ e ∈ fs, e ∈ es) → PInv n es out → PInv n es (fs.foldl stepL out) ∧ (∀ i : Nat, (i : Int) < n → good es out i = true → good es (fs.foldl stepL out) i = true) ∧
    ∀ e ∈ fs, (gt out e.1 = lab es e.1 ∨ gt out e.2 = lab es e.2) → gt (fs.foldl stepL out) e.1 = lab es e.1 ∧ gt (fs.foldl stepL out) e.2 = lab es e.2
  | [], out, _, h => ⟨h, fun _ _ x => x, fun e he => by cases he⟩
  | f :: fs, out, hs, h => by
    have hf := hs f (by simp)
    have s := h.step1 he hf
    obtain ⟨r1, r2, r3⟩ := PInv.round he fs (stepL out f) (fun e hh => hs e (List.mem_cons_of_mem _ hh)) s.1
    have up : ∀ i : Nat, (i : Int) < n → good es out i = true → good es (fs.foldl stepL (stepL out f)) i = true := fun i hi hg => r2 i hi (s.2 i hi hg)
    refine ⟨r1, up, ?_⟩
    intro e hm hg
    have fin : ∀ i : Int, 0 ≤ i → i < n → gt (stepL out f) i = lab es i → gt (fs.foldl stepL (stepL out f)) i = lab es i := by
      intro i h0 h1 h2
      have := r2 i.toNat (by omega) (by unfold good; rw [beq_iff_eq, show ((i.toNat : Nat) : Int) = i by omega]; exact h2)
      unfold good at this
      rwa [beq_iff_eq, show ((i.toNat : Nat) : Int) = i by omega] at this
    rcases List.mem_cons.mp hm with rfl | hm
    · have x := he e hf
      have g := stepL_good he h hf hg
      exact ⟨fin _ x.1 x.2.1 g.1, fin _ x.2.2.1 x.2.2.2.1 g.2⟩
    · refine r3 e hm ?_
      have x := he e (hs e (List.mem_cons_of_mem _ hm))
      have g : ∀ i : Int, 0 ≤ i → i < n → gt out i = lab es i → gt (stepL out f) i = lab es i := by
        intro i h0 h1 h2
        have := s.2 i.toNat (by omega) (by unfold good; rw [beq_iff_eq, show ((i.toNat : Nat) : Int) = i by omega]; exact h2)
        unfold good at this
        rwa [beq_iff_eq, show ((i.toNat : Nat) : Int) = i by omega] at this
      rcases hg with hg | hg
      · exact Or.inl (g _ x.1 x.2.1 hg)
      · exact Or.inr (g _ x.2.2.1 x.2.2.2.1 hg)
theorem countP_lt {p q : Nat → Bool} : ∀ {N : Nat}, (∀ i, i < N → p i = true → q i = true) → (∃ i, i < N ∧ p i = false ∧ q i = true) → (List.range N).countP p < (List.range N).countP q
  | 0, _, ⟨i, hi, _⟩ => by omega
  | N + 1, h, ⟨i, hi, h1, h2⟩ => by
    rw [List.range_succ, List.countP_append, List.countP_append]
    simp only [List.countP_cons, List.countP_nil]
    have m : (List.range N).countP p ≤ (List.range N).countP q := by
      apply List.countP_mono_left
      intro x hx; rw [List.mem_range] at hx; exact h x (by omega)
    by_cases e : i = N
    · subst e
      rw [h1, h2]; simp; omega
    · have := countP_lt (N := N) (fun x hx => h x (by omega)) ⟨i, by omega, h1, h2⟩
      have z := h N (by omega)
      cases hp : p N with
      | true => rw [z hp]; omega
      | false =>
        simp only [Bool.false_eq_true, if_false]
        split <;> omega
def goods (n : Int) (es : List E) (out : List Int) : Nat := (List.range n.toNat).countP (good es out)
/-- a round makes one further label right, while one is wrong -/
theorem PInv.more {n : Int} {es : List E} {out : List Int} (he : Ends n es) (h : PInv n es out) : PInv n es (es.foldl stepL out) ∧ ((∀ i, 0 ≤ i → i < n → gt out i = lab es i) ∧ goods n es (es.foldl stepL out) = goods n es out ∨ goods n es out < goods n es (es.foldl stepL out)) := by
  obtain ⟨r1, r2, r3⟩ := PInv.round he es out (fun _ h => h) h
  refine ⟨r1, ?_⟩
  by_cases all : ∀ i, 0 ≤ i → i < n → gt out i = lab es i
  · left
    refine ⟨all, ?_⟩
    unfold goods
    apply List.countP_congr
    intro i hi
    rw [List.mem_range] at hi
    have g : good es out i = true := by unfold good; rw [beq_iff_eq]; exact all i (by omega) (by omega)
    rw [g, r2 i (by omega) g]
  · right
    have : ∃ i, 0 ≤ i ∧ i < n ∧ gt out i ≠ lab es i := by
      apply Classical.byContradiction
      intro hc
      exact all (fun i h0 h1 => Classical.byContradiction fun hx => hc ⟨i, h0, h1, hx⟩)
    obtain ⟨i, h0, h1, hb⟩ := this
    -- a run with one right end
    have cross : ∃ e ∈ es, (gt out e.1 = lab es e.1) ≠ (gt out e.2 = lab es e.2) := by
      apply Classical.byContradiction
      intro hc
      have u := lab_U es (fun i => decide (gt out i = lab es i)) (fun e hm => by
        have : (gt out e.1 = lab es e.1) = (gt out e.2 = lab es e.2) := Classical.byContradiction fun hx => hc ⟨e, hm, hx⟩
        simp only [this]) i
      have b := lab_le he i h0
      have l := h.low (lab es i) b.1 (by omega)
      have r := lab_lab es i
      have g := h.ge he b.1 (by omega)
      have : gt out (lab es i) = lab es (lab es i) := by omega
      simp only [this, decide_true] at u
      exact hb (of_decide_eq_true u.symm)
    obtain ⟨e, hm, hne⟩ := cross
    have x := he e hm
    refine countP_lt (fun j hj hg => r2 j (by omega) hg) ?_
    by_cases g1 : gt out e.1 = lab es e.1
    · have g2 : ¬ gt out e.2 = lab es e.2 := fun g2 => hne (by simp [g1, g2])
      refine ⟨e.2.toNat, by omega, ?_, ?_⟩
      · unfold good; rw [show ((e.2.toNat : Nat) : Int) = e.2 by omega]; simpa using g2
      · unfold good; rw [show ((e.2.toNat : Nat) : Int) = e.2 by omega, beq_iff_eq]; exact (r3 e hm (Or.inl g1)).2
    · have g2 : gt out e.2 = lab es e.2 := Classical.byContradiction fun g2 => hne (by simp [g1, g2])
      refine ⟨e.1.toNat, by omega, ?_, ?_⟩
      · unfold good; rw [show ((e.1.toNat : Nat) : Int) = e.1 by omega]; simpa using g1
      · unfold good; rw [show ((e.1.toNat : Nat) : Int) = e.1 by omega, beq_iff_eq]; exact (r3 e hm (Or.inr g2)).1
def rounds (es : List E) : Nat → List Int → List Int
  | 0, out => out
  | k + 1, out => rounds es k (es.foldl stepL out)
theorem goods_le (n : Int) (es : List E) (out : List Int) : goods n es out ≤ n.toNat := by
  unfold goods
  have := List.countP_le_length (p := good es out) (l := List.range n.toNat)
  rwa [List.length_range] at this
theorem all_good {n : Int} {es : List E} {out : List Int} (h : n.toNat ≤ goods n es out) : ∀ i, 0 ≤ i → i < n → gt out i = lab es i := by
  have e : goods n es out = (List.range n.toNat).length := by rw [List.length_range]; have := goods_le n es out; omega
  unfold goods at e
  rw [List.countP_eq_length] at e
  intro i h0 h1
  have := e i.toNat (by rw [List.mem_range]; omega)
  unfold good at this
  rwa [beq_iff_eq, show ((i.toNat : Nat) : Int) = i by omega] at this
theorem rounds_labs {n : Int} {es : List E} (he : Ends n es) : ∀ (k : Nat) (out : List Int), PInv n es out → n.toNat ≤ goods n es out + k → rounds es k out = labs n es
  | 0, out, h, hk => by
    show out = _
    exact eq_labs h.len (all_good (by omega))
  | k + 1, out, h, hk => by
    obtain ⟨m1, m2⟩ := h.more he
    refine rounds_labs he k _ m1 ?_
    rcases m2 with ⟨a, e⟩ | l
    · have : goods n es out = n.toNat := by
        unfold goods
        have : (List.range n.toNat).countP (good es out) = (List.range n.toNat).length := by
          rw [List.countP_eq_length]
          intro i hi; rw [List.mem_range] at hi
          unfold good; rw [beq_iff_eq]; exact a i (by omega) (by omega)
        rw [this, List.length_range]
      omega
    · omega
def idx (n : Int) : List Int := (List.range n.toNat).map (fun i : Nat => (i : Int))
theorem idx_inv (n : Int) (es : List E) : PInv n es (idx n) := by
  refine ⟨by unfold idx; simp, fun i h0 h1 => ?_⟩
  have : gt (idx n) i = i := by unfold idx; rw [gt_range _ _ h0 (by omega)]; omega
  rw [this]
  exact ⟨h0, by omega, rfl⟩
theorem rounds_idx {n : Int} {es : List E} (he : Ends n es) : rounds es n.toNat (idx n) = labs n es := rounds_labs he _ _ (idx_inv n es) (by omega)
end Go.Proofs.Ytbnndmkkmceenaa.Gr
