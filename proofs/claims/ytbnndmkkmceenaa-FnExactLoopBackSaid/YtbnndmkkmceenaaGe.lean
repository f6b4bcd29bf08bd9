import Derived.Test.YtbnndmkkmceenaaGd
/- Heights that the runs of a tree give. Plain Lean. -/
namespace Go.Proofs.Ytbnndmkkmceenaa.Gr
set_option linter.unusedVariables false
set_option linter.unusedSimpArgs false
abbrev R := Int × Int × Int
def eds (rs : List R) : List E := rs.map (fun r => (r.1, r.2.1))
theorem eds_append (a b : List R) : eds (a ++ b) = eds a ++ eds b := by unfold eds; simp
theorem eds_mem {rs : List R} {r : R} (h : r ∈ rs) : (r.1, r.2.1) ∈ eds rs := List.mem_map.mpr ⟨r, h, rfl⟩
theorem eds_length (rs : List R) : (eds rs).length = rs.length := by unfold eds; simp
/-- a height of each node, as the runs ask -/
def Pot (rs : List R) (P : Int → Int) : Prop := ∀ r ∈ rs, P r.2.1 - P r.1 = r.2.2
theorem pot_exists {n : Int} {rs : List R} (he : Ends n (eds rs)) (hf : comps n (eds rs) + rs.length = n.toNat) : ∃ P, Pot rs P := by
  induction rs using snoc_ind with
  | h0 => exact ⟨fun _ => 0, fun r hr => by cases hr⟩
  | h1 l x ih =>
    rw [eds_append] at he hf
    have c := comps_snoc (e := (x.1, x.2.1)) he
    have c2 := comps_append (a := []) (b := eds l) he.left
    rw [comps_nil, List.nil_append, eds_length] at c2
    rw [List.length_append] at hf
    simp only [List.length_cons, List.length_nil] at hf
    have hx : eds [x] = [(x.1, x.2.1)] := rfl
    rw [hx] at hf
    by_cases hs : lab (eds l) x.1 = lab (eds l) x.2.1
    · rw [if_pos hs] at c; omega
    · rw [if_neg hs] at c
      obtain ⟨P, hP⟩ := ih he.left (by omega)
      refine ⟨fun i => if lab (eds l) i = lab (eds l) x.2.1 then P i + (P x.1 + x.2.2 - P x.2.1) else P i, ?_⟩
      intro r hr
      rcases List.mem_append.mp hr with hr | hr
      · have e := lab_run (eds_mem hr)
        simp only at e ⊢
        rw [e]
        have := hP r hr
        split <;> omega
      · obtain rfl : r = x := by simpa using hr
        simp only [if_true]
        rw [if_neg hs]
        omega
theorem pot_unique {n : Int} {rs : List R} (w : Whole n (eds rs)) {P Q : Int → Int} (hP : Pot rs P) (hQ : Pot rs Q) : ∀ i, 0 ≤ i → i < n → P i - P 0 = Q i - Q 0 := by
  intro i h0 h1
  have := w.const (fun j => P j - Q j) (by
    intro e he
    obtain ⟨r, hr, rfl⟩ := List.mem_map.mp he
    have a := hP r hr
    have b := hQ r hr
    show P r.1 - Q r.1 = P r.2.1 - Q r.2.1
    omega) i h0 h1
  omega
theorem tree_pot {n : Int} {rs : List R} (he : Ends n (eds rs)) (hn : 0 < n) (w : Whole n (eds rs)) (hl : (rs.length : Int) = n - 1) : ∃ P, Pot rs P := by
  apply pot_exists he
  rw [(whole_iff he hn).mp w]; omega
/-! the rounds -/
def kt (xs : List Bool) (i : Int) : Bool := xs.getD i.toNat false
theorem kt_set {xs : List Bool} {i j : Int} {v : Bool} (hi : 0 ≤ i) (hl : i < xs.length) (hj : 0 ≤ j) : kt (xs.set i.toNat v) j = if j = i then v else kt xs j := by
  unfold kt
  rw [List.getD_eq_getElem?_getD, List.getD_eq_getElem?_getD, List.getElem?_set]
  by_cases h : j = i
  · subst h
    rw [if_pos rfl, if_pos (by omega), if_pos rfl]; rfl
  · rw [if_neg (by omega), if_neg h]
abbrev HK := List Int × List Bool
def hst (s : HK) (r : R) : HK :=
  if kt s.2 r.1 = true ∧ kt s.2 r.2.1 = false then (s.1.set r.2.1.toNat (gt s.1 r.1 + r.2.2), s.2.set r.2.1.toNat true)
  else if kt s.2 r.2.1 = true ∧ kt s.2 r.1 = false then (s.1.set r.1.toNat (gt s.1 r.2.1 - r.2.2), s.2.set r.1.toNat true)
  else s
def cnt (n : Int) (K : List Bool) : Nat := (List.range n.toNat).countP (fun i : Nat => kt K i)
structure HI (n M : Int) (P : Int → Int) (s : HK) : Prop where
  len : s.1.length = n.toNat
  lenK : s.2.length = n.toNat
  zero : kt s.2 0 = true
  is : ∀ i, 0 ≤ i → i < n → kt s.2 i = true → gt s.1 i = P i
  bd : ∀ i, 0 ≤ i → i < n → kt s.2 i = true → - (((cnt n s.2 : Int) - 1) * M) ≤ P i ∧ P i ≤ ((cnt n s.2 : Int) - 1) * M
theorem cnt_set {n : Int} {K : List Bool} {x : Int} (hl : K.length = n.toNat) (h0 : 0 ≤ x) (h1 : x < n) (hx : kt K x = false) : cnt n (K.set x.toNat true) = cnt n K + 1 := by
  unfold cnt
  symm
  refine countP_drop _ _ x.toNat _ (by omega) ?_ ?_
  · rw [show ((x.toNat : Nat) : Int) = x by omega, kt_set h0 (by omega) h0, if_pos rfl]
  · intro i hi
    rw [kt_set h0 (by omega) (by omega)]
    by_cases e : (i : Int) = x
    · rw [if_pos e, e, hx]
      have : (i != x.toNat) = false := by simp; omega
      rw [this]; rfl
    · rw [if_neg e]
      have : (i != x.toNat) = true := by simp; omega
      rw [this, Bool.and_true]
theorem HI.set {n M : Int} {P : Int → Int} {s : HK} (h : HI n M P s) (hM : 0 ≤ M) {x v : Int} (h0 : 0 ≤ x) (h1 : x < n) (hx : kt s.2 x = false) (hv : v = P x) (hb : ∃ y d, 0 ≤ y ∧ y < n ∧ kt s.2 y = true ∧ P x = P y + d ∧ -M ≤ d ∧ d ≤ M) :
    HI n M P (s.1.set x.toNat v, s.2.set x.toNat true) := by
  have hl := h.len
  have hk := h.lenK
  have hc := cnt_set hk h0 h1 hx
  refine ⟨by simp [hl], by simp [hk], ?_, ?_, ?_⟩
  · rw [kt_set h0 (by omega) (Int.le_refl _)]
    split
    · rfl
    · exact h.zero
  · intro i i0 i1 hi
    rw [kt_set h0 (by omega) i0] at hi
    rw [gt_set h0 (by omega) i0]
    split
    · rename_i c; rw [hv, c]
    · rename_i c; rw [if_neg c] at hi; exact h.is i i0 i1 hi
  · intro i i0 i1 hi
    rw [hc]
    rw [kt_set h0 (by omega) i0] at hi
    have e : (((cnt n s.2 + 1 : Nat) : Int) - 1) * M = ((cnt n s.2 : Int) - 1) * M + M := by
      rw [show (((cnt n s.2 + 1 : Nat) : Int) - 1) = ((cnt n s.2 : Int) - 1) + 1 by omega, Int.add_mul]; omega
    rw [e]
    split at hi
    · rename_i c
      subst c
      obtain ⟨y, d, y0, y1, hy, e1, e2, e3⟩ := hb
      have := h.bd y y0 y1 hy
      omega
    · have := h.bd i i0 i1 hi
      omega
theorem HI.step {n M : Int} {P : Int → Int} {s : HK} (h : HI n M P s) (hM : 0 ≤ M) {r : R} (he : 0 ≤ r.1 ∧ r.1 < n ∧ 0 ≤ r.2.1 ∧ r.2.1 < n) (hp : P r.2.1 - P r.1 = r.2.2) (hr : -M ≤ r.2.2 ∧ r.2.2 ≤ M) :
    HI n M P (hst s r) ∧ (∀ i, 0 ≤ i → i < n → kt s.2 i = true → kt (hst s r).2 i = true) ∧ (kt s.2 r.1 = true ∨ kt s.2 r.2.1 = true → kt (hst s r).2 r.1 = true ∧ kt (hst s r).2 r.2.1 = true) := by
  have hk := h.lenK
  unfold hst
  by_cases c1 : kt s.2 r.1 = true ∧ kt s.2 r.2.1 = false
  · rw [if_pos c1]
    have hv := h.is r.1 he.1 he.2.1 c1.1
    refine ⟨h.set hM he.2.2.1 he.2.2.2 c1.2 (by omega) ⟨r.1, r.2.2, he.1, he.2.1, c1.1, by omega, hr.1, hr.2⟩, ?_, ?_⟩
    · intro i i0 i1 hi
      simp only
      rw [kt_set he.2.2.1 (by omega) i0]
      split
      · rfl
      · exact hi
    · intro _
      simp only
      rw [kt_set he.2.2.1 (by omega) he.1, kt_set he.2.2.1 (by omega) he.2.2.1, if_pos rfl]
      refine ⟨?_, rfl⟩
      split
      · rfl
      · exact c1.1
  · rw [if_neg c1]
    by_cases c2 : kt s.2 r.2.1 = true ∧ kt s.2 r.1 = false
    · rw [if_pos c2]
      have hv := h.is r.2.1 he.2.2.1 he.2.2.2 c2.1
      refine ⟨h.set hM he.1 he.2.1 c2.2 (by omega) ⟨r.2.1, - r.2.2, he.2.2.1, he.2.2.2, c2.1, by omega, by omega, by omega⟩, ?_, ?_⟩
      · intro i i0 i1 hi
        simp only
        rw [kt_set he.1 (by omega) i0]
        split
        · rfl
        · exact hi
      · intro _
        simp only
        rw [kt_set he.1 (by omega) he.1, kt_set he.1 (by omega) he.2.2.1, if_pos rfl]
        refine ⟨rfl, ?_⟩
        split
        · rfl
        · exact c2.1
    · rw [if_neg c2]
      refine ⟨h, fun _ _ _ x => x, ?_⟩
      intro z
      cases a : kt s.2 r.1 <;> cases b : kt s.2 r.2.1 <;> simp [a, b] at c1 c2 z ⊢
def ROk (n M : Int) (P : Int → Int) (rs : List R) : Prop := ∀ r ∈ rs, (0 ≤ r.1 ∧ r.1 < n ∧ 0 ≤ r.2.1 ∧ r.2.1 < n) ∧ P r.2.1 - P r.1 = r.2.2 ∧ (-M ≤ r.2.2 ∧ r.2.2 ≤ M)
theorem HI.round {n M : Int} {P : Int → Int} (hM : 0 ≤ M) : ∀ (rs : List R) (s : HK), ROk n M P rs → HI n M P s →
    HI n M P (rs.foldl hst s) ∧ (∀ i, 0 ≤ i → i < n → kt s.2 i = true → kt (rs.foldl hst s).2 i = true) ∧ ∀ r ∈ rs, kt s.2 r.1 = true ∨ kt s.2 r.2.1 = true → kt (rs.foldl hst s).2 r.1 = true ∧ kt (rs.foldl hst s).2 r.2.1 = true
  | [], s, _, h => ⟨h, fun _ _ _ x => x, fun r hr => by cases hr⟩
  | r :: rs, s, hr, h => by
    have x := hr r (by simp)
    obtain ⟨s1, s2, s3⟩ := h.step hM x.1 x.2.1 x.2.2
    obtain ⟨r1, r2, r3⟩ := HI.round hM rs (hst s r) (fun q hq => hr q (List.mem_cons_of_mem _ hq)) s1
    refine ⟨r1, fun i i0 i1 hi => r2 i i0 i1 (s2 i i0 i1 hi), ?_⟩
    intro q hq hk
    rcases List.mem_cons.mp hq with rfl | hq
    · have := s3 hk
      exact ⟨r2 _ x.1.1 x.1.2.1 this.1, r2 _ x.1.2.2.1 x.1.2.2.2 this.2⟩
    · have y := hr q (List.mem_cons_of_mem _ hq)
      refine r3 q hq ?_
      rcases hk with hk | hk
      · exact Or.inl (s2 _ y.1.1 y.1.2.1 hk)
      · exact Or.inr (s2 _ y.1.2.2.1 y.1.2.2.2 hk)
theorem cnt_le (n : Int) (K : List Bool) : cnt n K ≤ n.toNat := by
  unfold cnt
  have := List.countP_le_length (p := fun i : Nat => kt K i) (l := List.range n.toNat)
  rwa [List.length_range] at this
theorem HI.more {n M : Int} {P : Int → Int} (hM : 0 ≤ M) {rs : List R} {s : HK} (hn : 0 < n) (w : Whole n (eds rs)) (hr : ROk n M P rs) (h : HI n M P s) :
    HI n M P (rs.foldl hst s) ∧ (n.toNat ≤ cnt n (rs.foldl hst s).2 ∨ cnt n s.2 < cnt n (rs.foldl hst s).2) := by
  obtain ⟨r1, r2, r3⟩ := HI.round hM rs s hr h
  refine ⟨r1, ?_⟩
  by_cases all : ∀ i, 0 ≤ i → i < n → kt (rs.foldl hst s).2 i = true
  · left
    unfold cnt
    have : (List.range n.toNat).countP (fun i : Nat => kt (rs.foldl hst s).2 i) = (List.range n.toNat).length := by
      rw [List.countP_eq_length]
      intro i hi; rw [List.mem_range] at hi; exact all i (by omega) (by omega)
    rw [this, List.length_range]; omega
  · right
    have : ∃ i, 0 ≤ i ∧ i < n ∧ kt s.2 i = false := by
      apply Classical.byContradiction
      intro hc
      apply all
      intro i h0 h1
      refine r2 i h0 h1 ?_
      cases e : kt s.2 i with
      | true => rfl
      | false => exact absurd ⟨i, h0, h1, e⟩ hc
    obtain ⟨i, h0, h1, hi⟩ := this
    have cross : ∃ r ∈ rs, kt s.2 r.1 ≠ kt s.2 r.2.1 := by
      apply Classical.byContradiction
      intro hc
      have u := w.const (fun j => kt s.2 j) (by
        intro e he
        obtain ⟨r, hr, rfl⟩ := List.mem_map.mp he
        exact Classical.byContradiction fun hx => hc ⟨r, hr, hx⟩) i h0 h1
      rw [hi, h.zero] at u
      cases u
    obtain ⟨r, hm, hne⟩ := cross
    have x := hr r hm
    refine countP_lt (fun j hj hg => r2 j (by omega) (by omega) hg) ?_
    cases a : kt s.2 r.1 with
    | true =>
      have b : kt s.2 r.2.1 = false := by cases b : kt s.2 r.2.1 <;> simp_all
      have := r3 r hm (Or.inl a)
      exact ⟨r.2.1.toNat, by omega, by rw [show ((r.2.1.toNat : Nat) : Int) = r.2.1 by omega]; exact b, by rw [show ((r.2.1.toNat : Nat) : Int) = r.2.1 by omega]; exact this.2⟩
    | false =>
      have b : kt s.2 r.2.1 = true := by cases b : kt s.2 r.2.1 <;> simp_all
      have := r3 r hm (Or.inr b)
      exact ⟨r.1.toNat, by omega, by rw [show ((r.1.toNat : Nat) : Int) = r.1 by omega]; exact a, by rw [show ((r.1.toNat : Nat) : Int) = r.1 by omega]; exact this.1⟩
def hrounds (rs : List R) : Nat → HK → HK
  | 0, s => s
  | k + 1, s => hrounds rs k (rs.foldl hst s)
theorem all_known {n : Int} {K : List Bool} (h : n.toNat ≤ cnt n K) : ∀ i, 0 ≤ i → i < n → kt K i = true := by
  have e : cnt n K = (List.range n.toNat).length := by rw [List.length_range]; have := cnt_le n K; omega
  unfold cnt at e
  rw [List.countP_eq_length] at e
  intro i h0 h1
  have := e i.toNat (by rw [List.mem_range]; omega)
  rwa [show ((i.toNat : Nat) : Int) = i by omega] at this
theorem hrounds_all {n M : Int} {P : Int → Int} (hM : 0 ≤ M) {rs : List R} (hn : 0 < n) (w : Whole n (eds rs)) (hr : ROk n M P rs) : ∀ (k : Nat) (s : HK), HI n M P s → n.toNat ≤ cnt n s.2 + k →
    HI n M P (hrounds rs k s) ∧ n.toNat ≤ cnt n (hrounds rs k s).2
  | 0, s, h, hk => ⟨h, hk⟩
  | k + 1, s, h, hk => by
    obtain ⟨m1, m2⟩ := h.more hM hn w hr
    refine hrounds_all hM hn w hr k _ m1 ?_
    omega
/-- the heights of a potential, as a list -/
def hts (n : Int) (P : Int → Int) : List Int := (List.range n.toNat).map (fun i : Nat => P i - P 0)
theorem gt_hts {n : Int} (P : Int → Int) {i : Int} (h0 : 0 ≤ i) (h : i < n) : gt (hts n P) i = P i - P 0 := by
  unfold hts; rw [gt_range _ _ h0 (by omega), show ((i.toNat : Nat) : Int) = i by omega]
theorem hts_length (n : Int) (P : Int → Int) : (hts n P).length = n.toNat := by unfold hts; simp
theorem kt_zero {n : Nat} {i : Int} (h0 : 0 ≤ i) : kt ((List.replicate n false).set 0 true) i = decide (i = 0 ∧ 0 < n) := by
  have e := kt_set (xs := List.replicate n false) (i := 0) (j := i) (v := true) (Int.le_refl _)
  by_cases hn : 0 < n
  · have := e (by simp; omega) h0
    rw [show (0 : Int).toNat = 0 from rfl] at this
    rw [this]
    by_cases c : i = 0
    · simp [c, hn]
    · rw [if_neg c]
      unfold kt
      rw [List.getD_eq_getElem?_getD, List.getElem?_replicate]
      simp only [c, false_and, decide_false]
      split <;> rfl
  · obtain rfl : n = 0 := by omega
    simp [kt]
/-- enough rounds over a tree give the heights of any potential of its runs -/
theorem hrounds_hts {n M : Int} {P : Int → Int} (hM : 0 ≤ M) {rs : List R} (hn : 0 < n) (w : Whole n (eds rs)) (he : Ends n (eds rs)) (hP : Pot rs P) (hb : ∀ r ∈ rs, -M ≤ r.2.2 ∧ r.2.2 ≤ M) (k : Nat) (hk : n.toNat ≤ k + 1) :
    (hrounds rs k (List.replicate n.toNat 0, (List.replicate n.toNat false).set 0 true)).1 = hts n P ∧ ∀ i, 0 ≤ i → i < n → -((n - 1) * M) ≤ P i - P 0 ∧ P i - P 0 ≤ (n - 1) * M := by
  have hr : ROk n M (fun i => P i - P 0) rs := by
    intro r hr
    have x := he _ (eds_mem hr)
    simp only at x
    refine ⟨⟨x.1, x.2.1, x.2.2.1, x.2.2.2.1⟩, ?_, hb r hr⟩
    have := hP r hr
    show (P r.2.1 - P 0) - (P r.1 - P 0) = r.2.2
    omega
  have hc : cnt n ((List.replicate n.toNat false).set 0 true) = 1 := by
    have := cnt_set (n := n) (K := List.replicate n.toNat false) (x := 0) (by simp) (Int.le_refl _) hn (by unfold kt; rw [List.getD_eq_getElem?_getD, List.getElem?_replicate]; split <;> rfl)
    rw [show (0 : Int).toNat = 0 from rfl] at this
    rw [this]
    have : cnt n (List.replicate n.toNat false) = 0 := by
      unfold cnt
      rw [List.countP_eq_zero]
      intro i _
      unfold kt
      rw [List.getD_eq_getElem?_getD, List.getElem?_replicate]
      split <;> simp
    omega
  have h0 : HI n M (fun i => P i - P 0) (List.replicate n.toNat 0, (List.replicate n.toNat false).set 0 true) := by
    refine ⟨by simp, by simp, ?_, ?_, ?_⟩
    · simp only; rw [kt_zero (Int.le_refl _)]; simp; omega
    · intro i i0 i1 hi
      simp only at hi ⊢
      rw [kt_zero i0] at hi
      simp only [decide_eq_true_eq] at hi
      obtain ⟨rfl, _⟩ := hi
      unfold gt
      rw [List.getD_eq_getElem?_getD, List.getElem?_replicate]
      split <;> simp
    · intro i i0 i1 hi
      simp only at hi ⊢
      rw [kt_zero i0] at hi
      simp only [decide_eq_true_eq] at hi
      obtain ⟨rfl, _⟩ := hi
      rw [hc]
      simp
  obtain ⟨a, b⟩ := hrounds_all hM hn w hr k _ h0 (by simp only; rw [hc]; omega)
  have known := all_known b
  refine ⟨?_, ?_⟩
  · refine gt_ext (n := n.toNat) a.len (hts_length n P) (fun i i0 i1 => ?_)
    rw [a.is i i0 (by omega) (known i i0 (by omega)), gt_hts P i0 (by omega)]
  · intro i i0 i1
    have z := a.bd i i0 i1 (known i i0 i1)
    have e : cnt n (hrounds rs k (List.replicate n.toNat 0, (List.replicate n.toNat false).set 0 true)).2 = n.toNat := by
      have := cnt_le n (hrounds rs k (List.replicate n.toNat 0, (List.replicate n.toNat false).set 0 true)).2; omega
    rw [e, show ((n.toNat : Nat) : Int) = n by omega] at z
    exact z
end Go.Proofs.Ytbnndmkkmceenaa.Gr
