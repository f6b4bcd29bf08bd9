import Derived.Test.YtbnndmkkmceenaaG1
/- Heights that the runs of a tree give. Plain Lean. -/
namespace Go.Proofs.Ytbnndmkkmceenaa.Gr
set_option linter.unusedVariables false
set_option linter.unusedSimpArgs false
theorem pot_exists {n : Int} {rs : List R} (he : Ends n (eds rs)) (hf : comps n (eds rs) + rs.length = n.toNat) : ∃ P, Pot rs P := by
  induction rs using snoc_ind with
  | h0 => exact ⟨fun _ => 0, fun r hr => by cases hr⟩
  | h1 l x ih =>
    rw [eds_append] at he hf
    have c := comps_snoc (e := (x.1, x.2.1)) he
    have c2 := comps_append (a := []) (b := eds l) he.left
    rw [comps_nil, List.nil_append, eds_length] at c2
    rw [List.length_append] at hf
    simp only [List.length_cons, List.length_nil] at hf
    have hx : eds [x] = [(x.1, x.2.1)] := rfl
    rw [hx] at hf
    by_cases hs : lab (eds l) x.1 = lab (eds l) x.2.1
    · rw [if_pos hs] at c; omega
    · rw [if_neg hs] at c
      obtain ⟨P, hP⟩ := ih he.left (by omega)
      refine ⟨fun i => if lab (eds l) i = lab (eds l) x.2.1 then P i + (P x.1 + x.2.2 - P x.2.1) else P i, ?_⟩
      intro r hr
      rcases List.mem_append.mp hr with hr | hr
      · have e := lab_run (eds_mem hr)
        simp only at e ⊢
        rw [e]
        have := hP r hr
        split <;> omega
      · obtain rfl : r = x := by simpa using hr
        simp only [if_true]
        rw [if_neg hs]
        omega
theorem pot_unique {n : Int} {rs : List R} (w : Whole n (eds rs)) {P Q : Int → Int} (hP : Pot rs P) (hQ : Pot rs Q) : ∀ i, 0 ≤ i → i < n → P i - P 0 = Q i - Q 0 := by
  intro i h0 h1
  have := w.const (fun j => P j - Q j) (by
    intro e he
    obtain ⟨r, hr, rfl⟩ := List.mem_map.mp he
    have a := hP r hr
    have b := hQ r hr
    show P r.1 - Q r.1 = P r.2.1 - Q r.2.1
    omega) i h0 h1
  omega
theorem tree_pot {n : Int} {rs : List R} (he : Ends n (eds rs)) (hn : 0 < n) (w : Whole n (eds rs)) (hl : (rs.length : Int) = n - 1) : ∃ P, Pot rs P := by
  apply pot_exists he
  rw [(whole_iff he hn).mp w]; omega
/-! the rounds -/
def kt (xs : List Bool) (i : Int) : Bool := xs.getD i.toNat false
theorem kt_set {xs : List Bool} {i j : Int} {v : Bool} (hi : 0 ≤ i) (hl : i < xs.length) (hj : 0 ≤ j) : kt (xs.set i.toNat v) j = if j = i then v else kt xs j := by
  unfold kt
  rw [List.getD_eq_getElem?_getD, List.getD_eq_getElem?_getD, List.getElem?_set]
  by_cases h : j = i
  · subst h
    rw [if_pos rfl, if_pos (by omega), if_pos rfl]; rfl
  · rw [if_neg (by omega), if_neg h]
abbrev HK := List Int × List Bool
def hst (s : HK) (r : R) : HK :=
  if kt s.2 r.1 = true ∧ kt s.2 r.2.1 = false then (s.1.set r.2.1.toNat (gt s.1 r.1 + r.2.2), s.2.set r.2.1.toNat true)
  else if kt s.2 r.2.1 = true ∧ kt s.2 r.1 = false then (s.1.set r.1.toNat (gt s.1 r.2.1 - r.2.2), s.2.set r.1.toNat true)
  else s
def cnt (n : Int) (K : List Bool) : Nat := (List.range n.toNat).countP (fun i : Nat => kt K i)
structure HI (n M : Int) (P : Int → Int) (s : HK) : Prop where
  len : s.1.length = n.toNat
  lenK : s.2.length = n.toNat
  zero : kt s.2 0 = true
  is : ∀ i, 0 ≤ i → i < n → kt s.2 i = true → gt s.1 i = P i
  bd : ∀ i, 0 ≤ i → i < n → kt s.2 i = true → - (((cnt n s.2 : Int) - 1) * M) ≤ P i ∧ P i ≤ ((cnt n s.2 : Int) - 1) * M
theorem cnt_set {n : Int} {K : List Bool} {x : Int} (hl : K.length = n.toNat) (h0 : 0 ≤ x) (h1 : x < n) (hx : kt K x = false) : cnt n (K.set x.toNat true) = cnt n K + 1 := by
  unfold cnt
  symm
  refine countP_drop _ _ x.toNat _ (by omega) ?_ ?_
  · rw [show ((x.toNat : Nat) : Int) = x by omega, kt_set h0 (by omega) h0, if_pos rfl]
  · intro i hi
    rw [kt_set h0 (by omega) (by omega)]
    by_cases e : (i : Int) = x
    · rw [if_pos e, e, hx]
      have : (i != x.toNat) = false := by simp; omega
      rw [this]; rfl
    · rw [if_neg e]
      have : (i != x.toNat) = true := by simp; omega
      rw [this, Bool.and_true]
theorem HI.set {n M : Int} {P : Int → Int} {s : HK} (h : HI n M P s) (hM : 0 ≤ M) {x v : Int} (h0 : 0 ≤ x) (h1 : x < n) (hx : kt s.2 x = false) (hv : v = P x) (hb : ∃ y d, 0 ≤ y ∧ y < n ∧ kt s.2 y = true ∧ P x = P y + d ∧ -M ≤ d ∧ d ≤ M) :
    HI n M P (s.1.set x.toNat v, s.2.set x.toNat true) := by
  have hl := h.len
  have hk := h.lenK
  have hc := cnt_set hk h0 h1 hx
  refine ⟨by simp [hl], by simp [hk], ?_, ?_, ?_⟩
  · rw [kt_set h0 (by omega) (Int.le_refl _)]
    split
    · rfl
    · exact h.zero
  · intro i i0 i1 hi
    rw [kt_set h0 (by omega) i0] at hi
    rw [gt_set h0 (by omega) i0]
    split
    · rename_i c; rw [hv, c]
    · rename_i c; rw [if_neg c] at hi; exact h.is i i0 i1 hi
  · intro i i0 i1 hi
    rw [hc]
    rw [kt_set h0 (by omega) i0] at hi
    have e : (((cnt n s.2 + 1 : Nat) : Int) - 1) * M = ((cnt n s.2 : Int) - 1) * M + M := by
      rw [show (((cnt n s.2 + 1 : Nat) : Int) - 1) = ((cnt n s.2 : Int) - 1) + 1 by omega, Int.add_mul]; omega
    rw [e]
    split at hi
    · rename_i c
      subst c
      obtain ⟨y, d, y0, y1, hy, e1, e2, e3⟩ := hb
      have := h.bd y y0 y1 hy
      omega
    · have := h.bd i i0 i1 hi
      omega
theorem HI.step {n M : Int} {P : Int → Int} {s : HK} (h : HI n M P s) (hM : 0 ≤ M) {r : R} (he : 0 ≤ r.1 ∧ r.1 < n ∧ 0 ≤ r.2.1 ∧ r.2.1 < n) (hp : P r.2.1 - P r.1 = r.2.2) (hr : -M ≤ r.2.2 ∧ r.2.2 ≤ M) :
    HI n M P (hst s r) ∧ (∀ i, 0 ≤ i → i < n → kt s.2 i = true → kt (hst s r).2 i = true) ∧ (kt s.2 r.1 = true ∨ kt s.2 r.2.1 = true → kt (hst s r).2 r.1 = true ∧ kt (hst s r).2 r.2.1 = true) := by
  have hk := h.lenK
  unfold hst
  by_cases c1 : kt s.2 r.1 = true ∧ kt s.2 r.2.1 = false
  · rw [if_pos c1]
    have hv := h.is r.1 he.1 he.2.1 c1.1
    refine ⟨h.set hM he.2.2.1 he.2.2.2 c1.2 (by omega) ⟨r.1, r.2.2, he.1, he.2.1, c1.1, by omega, hr.1, hr.2⟩, ?_, ?_⟩
    · intro i i0 i1 hi
      simp only
      rw [kt_set he.2.2.1 (by omega) i0]
      split
      · rfl
      · exact hi
    · intro _
      simp only
      rw [kt_set he.2.2.1 (by omega) he.1, kt_set he.2.2.1 (by omega) he.2.2.1, if_pos rfl]
      refine ⟨?_, rfl⟩
      split
      · rfl
      · exact c1.1
  · rw [if_neg c1]
    by_cases c2 : kt s.2 r.2.1 = true ∧ kt s.2 r.1 = false
    · rw [if_pos c2]
      have hv := h.is r.2.1 he.2.2.1 he.2.2.2 c2.1
      refine ⟨h.set hM he.1 he.2.1 c2.2 (by omega) ⟨r.2.1, - r.2.2, he.2.2.1, he.2.2.2, c2.1, by omega, by omega, by omega⟩, ?_, ?_⟩
      · intro i i0 i1 hi
        simp only
        rw [kt_set he.1 (by omega) i0]
        split
        · rfl
        · exact hi
      · intro _
        simp only
        rw [kt_set he.1 (by omega) he.1, kt_set he.1 (by omega) he.2.2.1, if_pos rfl]
        refine ⟨rfl, ?_⟩
        split
        · rfl
        · exact c2.1
    · rw [if_neg c2]
      refine ⟨h, fun _ _ _ x => x, ?_⟩
      intro z
      cases a : kt s.2 r.1 <;> cases b : kt s.2 r.2.1 <;> simp [a, b] at c1 c2 z ⊢
def ROk (n M : Int) (P : Int → Int) (rs : List R) : Prop := ∀ r ∈ rs, (0 ≤ r.1 ∧ r.1 < n ∧ 0 ≤ r.2.1 ∧ r.2.1 < n) ∧ P r.2.1 - P r.1 = r.2.2 ∧ (-M ≤ r.2.2 ∧ r.2.2 ≤ M)
theorem HI.round {n M : Int} {P : Int → Int} (hM : 0 ≤ M) : ∀ (rs : List R) (s : HK), ROk n M P rs → HI n M P s →
    HI n M P (rs.foldl hst s) ∧ (∀ i, 0 ≤ i → i < n → kt s.2 i = true → kt (rs.foldl hst s).2 i = true) ∧ ∀ r ∈ rs, kt s.2 r.1 = true ∨ kt s.2 r.2.1 = true → kt (rs.foldl hst s).2 r.1 = true ∧ kt (rs.foldl hst s).2 r.2.1 = true
  | [], s, _, h => ⟨h, fun _ _ _ x => x, fun r hr => by cases hr⟩
  | r :: rs, s, hr, h => by
    have x := hr r (by simp)
    obtain ⟨s1, s2, s3⟩ := h.step hM x.1 x.2.1 x.2.2
    obtain ⟨r1, r2, r3⟩ := HI.round hM rs (hst s r) (fun q hq => hr q (List.mem_cons_of_mem _ hq)) s1
    refine ⟨r1, fun i i0 i1 hi => r2 i i0 i1 (s2 i i0 i1 hi), ?_⟩
    intro q hq hk
    rcases List.mem_cons.mp hq with rfl | hq
    · have := s3 hk
      exact ⟨r2 _ x.1.1 x.1.2.1 this.1, r2 _ x.1.2.2.1 x.1.2.2.2 this.2⟩
    · have y := hr q (List.mem_cons_of_mem _ hq)
      refine r3 q hq ?_
      rcases hk with hk | hk
      · exact Or.inl (s2 _ y.1.1 y.1.2.1 hk)
      · exact Or.inr (s2 _ y.1.2.2.1 y.1.2.2.2 hk)
theorem cnt_le (n : Int) (K : List Bool) : cnt n K ≤ n.toNat := by
  unfold cnt
  have := List.countP_le_length (p := fun i : Nat => kt K i) (l := List.range n.toNat)
  rwa [List.length_range] at this
theorem HI.more {n M : Int} {P : Int → Int} (hM : 0 ≤ M) {rs : List R} {s : HK} (hn : 0 < n) (w : Whole n (eds rs)) (hr : ROk n M P rs) (h : HI n M P s) :
    HI n M P (rs.foldl hst s) ∧ (n.toNat ≤ cnt n (rs.foldl hst s).2 ∨ cnt n s.2 < cnt n (rs.foldl hst s).2) := by
  obtain ⟨r1, r2, r3⟩ := HI.round hM rs s hr h
  refine ⟨r1, ?_⟩
  by_cases all : ∀ i, 0 ≤ i → i < n → kt (rs.foldl hst s).2 i = true
  · left
    unfold cnt
    have : (List.range n.toNat).countP (fun i : Nat => kt (rs.foldl hst s).2 i) = (List.range n.toNat).length := by
      rw [List.countP_eq_length]
      intro i hi; rw [List.mem_range] at hi; exact all i (by omega) (by omega)
    rw [this, List.length_range]; omega
  · right
    have : ∃ i, 0 ≤ i ∧ i < n ∧ kt s.2 i = false := by
      apply Classical.byContradiction
      intro hc
      apply all
      intro i h0 h1
      refine r2 i h0 h1 ?_
      cases e : kt s.2 i with
      | true => rfl
      | false => exact absurd ⟨i, h0, h1, e⟩ hc
    obtain ⟨i, h0, h1, hi⟩ := this
    have cross : ∃ r ∈ rs, kt s.2 r.1 ≠ kt s.2 r.2.1 := by
      apply Classical.byContradiction
      intro hc
      have u := w.const (fun j => kt s.2 j) (by
        intro e he
        obtain ⟨r, hr, rfl⟩ := List.mem_map.mp he
        exact Classical.byContradiction fun hx => hc ⟨r, hr, hx⟩) i h0 h1
      rw [hi, h.zero] at u
      cases u
    obtain ⟨r, hm, hne⟩ := cross
    have x := hr r hm
    refine countP_lt (fun j hj hg => r2 j (by omega) (by omega) hg) ?_
    cases a : kt s.2 r.1 with
    | true =>
      have b : kt s.2 r.2.1 = false := by cases b : kt s.2 r.2.1 <;> simp_all
      have := r3 r hm (Or.inl a)
      exact ⟨r.2.1.toNat, by omega, by rw [show ((r.2.1.toNat : Nat) : Int) = r.2.1 by omega]; exact b, by rw [show ((r.2.1.toNat : Nat) : Int) = r.2.1 by omega]; exact this.2⟩
    | false =>
      have b : kt s.2 r.2.1 = true := by cases b : kt s.2 r.2.1 <;> simp_all
      have := r3 r hm (Or.inr b)
      exact ⟨r.1.toNat, by omega, by rw [show ((r.1.toNat : Nat) : Int) = r.1 by omega]; exact a, by rw [show ((r.1.toNat : Nat) : Int) = r.1 by omega]; exact this.1⟩
def hrounds (rs : List R) : Nat → HK → HK
  | 0, s => s
  | k + 1, s => hrounds rs k (rs.foldl hst s)
theorem all_known {n : Int} {K : List Bool} (h : n.toNat ≤ cnt n K) : ∀ i, 0 ≤ i → i < n → kt K i = true := by
  have e : cnt n K = (List.range n.toNat).length := by rw [List.length_range]; have := cnt_le n K; omega
  unfold cnt at e
  rw [List.countP_eq_length] at e
  intro i h0 h1
  have := e i.toNat (by rw [List.mem_range]; omega)
  rwa [show ((i.toNat : Nat) : Int) = i by omega] at this
theorem hrounds_all {n M : Int} {P : Int → Int} (hM : 0 ≤ M) {rs : List R} (hn : 0 < n) (w : Whole n (eds rs)) (hr : ROk n M P rs) : ∀ (k : Nat) (s : HK), HI n M P s → n.toNat ≤ cnt n s.2 + k →
    HI n M P (hrounds rs k s) ∧ n.toNat ≤ cnt n (hrounds rs k s).2
  | 0, s, h, hk => ⟨h, hk⟩
  | k + 1, s, h, hk => by
    obtain ⟨m1, m2⟩ := h.more hM hn w hr
    refine hrounds_all hM hn w hr k _ m1 ?_
    omega
/-- the heights of a potential, as a list -/
def hts (n : Int) (P : Int → Int) : List Int := (List.range n.toNat).map (fun i : Nat => P i - P 0)
theorem gt_hts {n : Int} (P : Int → Int) {i : Int} (h0 : 0 ≤ i) (h : i < n) : gt (hts n P) i = P i - P 0 := by
  unfold hts; rw [gt_range _ _ h0 (by omega), show ((i.toNat : Nat) : Int) = i by omega]
theorem hts_length (n : Int) (P : Int → Int) : (hts n P).length = n.toNat := by unfold hts; simp
theorem kt_zero {n : Nat} {i : Int} (h0 : 0 ≤ i) : kt ((List.replicate n false).set 0 true) i = decide (i = 0 ∧ 0 < n) := by
  have e := kt_set (xs := List.replicate n false) (i := 0) (j := i) (v := true) (Int.le_refl _)
  by_cases hn : 0 < n
  · have := e (by simp; omega) h0
    rw [show (0 : Int).toNat = 0 from rfl] at this
    rw [this]
    by_cases c : i = 0
    · simp [c, hn]
    · rw [if_neg c]
      unfold kt
      rw [List.getD_eq_getElem?_getD, List.getElem?_replicate]
      simp only [c, false_and, decide_false]
      split <;> rfl
  · obtain rfl : n = 0 := by omega
    simp [kt]
/-- enough rounds over a tree give the heights of any potential of its runs -/
theorem hrounds_hts {n M : Int} {P : Int → Int} (hM : 0 ≤ M) {rs : List R} (hn : 0 < n) (w : Whole n (eds rs)) (he : Ends n (eds rs)) (hP : Pot rs P) (hb : ∀ r ∈ rs, -M ≤ r.2.2 ∧ r.2.2 ≤ M) (k : Nat) (hk : n.toNat ≤ k + 1) :
    (hrounds rs k (List.replicate n.toNat 0, (List.replicate n.toNat false).set 0 true)).1 = hts n P ∧ ∀ i, 0 ≤ i → i < n → -((n - 1) * M) ≤ P i - P 0 ∧ P i - P 0 ≤ (n - 1) * M := by
  have hr : ROk n M (fun i => P i - P 0) rs := by
    intro r hr
    have x := he _ (eds_mem hr)
    simp only at x
    refine ⟨⟨x.1, x.2.1, x.2.2.1, x.2.2.2.1⟩, ?_, hb r hr⟩
    have := hP r hr
    show (P r.2.1 - P 0) - (P r.1 - P 0) = r.2.2
    omega
  have hc : cnt n ((List.replicate n.toNat false).set 0 true) = 1 := by
    have := cnt_set (n := n) (K := List.replicate n.toNat false) (x := 0) (by simp) (Int.le_refl _) hn (by unfold kt; rw [List.getD_eq_getElem?_getD, List.getElem?_replicate]; split <;> rfl)
    rw [show (0 : Int).toNat = 0 from rfl] at this
    rw [this]
    have : cnt n (List.replicate n.toNat false) = 0 := by
      unfold cnt
      rw [List.countP_eq_zero]
      intro i _
      unfold kt
      rw [List.getD_eq_getElem?_getD, List.getElem?_replicate]
      split <;> simp
    omega
  have h0 : HI n M (fun i => P i - P 0) (List.replicate n.toNat 0, (List.replicate n.toNat false).set 0 true) := by
    refine ⟨by simp, by simp, ?_, ?_, ?_⟩
    · simp only; rw [kt_zero (Int.le_refl _)]; simp; omega
    · intro i i0 i1 hi
      simp only at hi ⊢
      rw [kt_zero i0] at hi
      simp only [decide_eq_true_eq] at hi
      obtain ⟨rfl, _⟩ := hi
      unfold gt
      rw [List.getD_eq_getElem?_getD, List.getElem?_replicate]
      split <;> simp
    · intro i i0 i1 hi
      simp only at hi ⊢
      rw [kt_zero i0] at hi
      simp only [decide_eq_true_eq] at hi
      obtain ⟨rfl, _⟩ := hi
      rw [hc]
      simp
  obtain ⟨a, b⟩ := hrounds_all hM hn w hr k _ h0 (by simp only; rw [hc]; omega)
  have known := all_known b
  refine ⟨?_, ?_⟩
  · refine gt_ext (n := n.toNat) a.len (hts_length n P) (fun i i0 i1 => ?_)
    rw [a.is i i0 (by omega) (known i i0 (by omega)), gt_hts P i0 (by omega)]
  · intro i i0 i1
    have z := a.bd i i0 i1 (known i i0 i1)
    have e : cnt n (hrounds rs k (List.replicate n.toNat 0, (List.replicate n.toNat false).set 0 true)).2 = n.toNat := by
      have := cnt_le n (hrounds rs k (List.replicate n.toNat 0, (List.replicate n.toNat false).set 0 true)).2; omega
    rw [e, show ((n.toNat : Nat) : Int) = n by omega] at z
    exact z
end Go.Proofs.Ytbnndmkkmceenaa.Gr
/- Ways along the runs of a tree that never turn back: from node to node there is one alone. Plain Lean. -/
namespace Go.Proofs.Ytbnndmkkmceenaa.Gr
set_option linter.unusedVariables false
set_option linter.unusedSimpArgs false
def ix (z : Int) : Int := (if z > 0 then z else -z) - 1
def fr (es : List E) (z : Int) : Int := if z > 0 then (ed es (ix z).toNat).1 else (ed es (ix z).toNat).2
def too (es : List E) (z : Int) : Int := if z > 0 then (ed es (ix z).toNat).2 else (ed es (ix z).toNat).1
def Wk (es : List E) (t : List Int) : Int → List Int → Int → Prop
  | u, [], v => u = v
  | u, z :: w, v => (ix z ∈ t ∧ z ≠ 0) ∧ fr es z = u ∧ Wk es t (too es z) w v
def Red : List Int → Prop
  | [] => True
  | z :: w => (∀ y, w.head? = some y → ix z ≠ ix y) ∧ Red w
theorem Red.right : ∀ {a b : List Int}, Red (a ++ b) → Red b
  | [], _, h => h
  | _ :: a, _, h => Red.right (a := a) h.2
theorem Red.left : ∀ {a b : List Int}, Red (a ++ b) → Red a
  | [], _, _ => trivial
  | z :: a, b, h => ⟨fun y hy => h.1 y (by cases a with
      | nil => cases hy
      | cons c a => simpa using hy), Red.left (a := a) h.2⟩
theorem Red.mid {a b : List Int} {y z : Int} (h : Red (a ++ y :: z :: b)) : ix y ≠ ix z := (Red.right h).1 z rfl
theorem Red.snoc : ∀ {a : List Int} {z : Int}, Red a → (∀ y, a.getLast? = some y → ix y ≠ ix z) → Red (a ++ [z])
  | [], z, _, _ => ⟨fun y hy => (by cases hy), trivial⟩
  | c :: a, z, h, hl => by
    refine ⟨fun y hy => ?_, Red.snoc (a := a) h.2 (fun y hy => hl y ?_)⟩
    · cases a with
      | nil =>
        obtain rfl : z = y := by simpa using hy
        exact hl c rfl
      | cons d a => exact h.1 y (by simpa using hy)
    · cases a with
      | nil => cases hy
      | cons d a => simpa using hy
theorem Wk.append {es : List E} {t : List Int} : ∀ {a b : List Int} {u m v : Int}, Wk es t u a m → Wk es t m b v → Wk es t u (a ++ b) v
  | [], b, u, m, v, h, h2 => by obtain rfl : u = m := h; exact h2
  | _ :: a, b, u, m, v, h, h2 => ⟨h.1, h.2.1, Wk.append (a := a) h.2.2 h2⟩
theorem Wk.mono {es : List E} {t t' : List Int} (s : ∀ x ∈ t, x ∈ t') : ∀ {a : List Int} {u v : Int}, Wk es t u a v → Wk es t' u a v
  | [], u, v, h => h
  | _ :: a, u, v, h => ⟨⟨s _ h.1.1, h.1.2⟩, h.2.1, Wk.mono s (a := a) h.2.2⟩
theorem fr_too {es : List E} {z : Int} : (fr es z = (ed es (ix z).toNat).1 ∧ too es z = (ed es (ix z).toNat).2) ∨ (fr es z = (ed es (ix z).toNat).2 ∧ too es z = (ed es (ix z).toNat).1) := by
  unfold fr too; split
  · left; exact ⟨rfl, rfl⟩
  · right; exact ⟨rfl, rfl⟩
theorem mem_pk {es : List E} {t : List Int} {z : Int} (h : ix z ∈ t) : ed es (ix z).toNat ∈ pk es t := List.mem_map.mpr ⟨ix z, h, rfl⟩
theorem step_lab {es : List E} {t : List Int} {z : Int} (h : ix z ∈ t) : lab (pk es t) (fr es z) = lab (pk es t) (too es z) := by
  have := lab_run (mem_pk (es := es) h)
  rcases fr_too (es := es) (z := z) with x | x
  · rw [x.1, x.2]; exact this
  · rw [x.1, x.2]; exact this.symm
theorem Wk.lab {es : List E} {t : List Int} : ∀ {w : List Int} {u v : Int}, Wk es t u w v → Gr.lab (pk es t) u = Gr.lab (pk es t) v
  | [], u, v, h => by obtain rfl : u = v := h; rfl
  | z :: w, u, v, h => by rw [← h.2.1, step_lab h.1.1]; exact Wk.lab h.2.2
/-- the first use of the run k -/
theorem Wk.split {es : List E} {t : List Int} {k : Int} : ∀ {w : List Int} {u v : Int}, Wk es (t ++ [k]) u w v →
    Wk es t u w v ∨ ∃ w1 z w2, w = w1 ++ z :: w2 ∧ ix z = k ∧ z ≠ 0 ∧ Wk es t u w1 (fr es z) ∧ Wk es (t ++ [k]) (too es z) w2 v
  | [], u, v, h => Or.inl h
  | z :: w, u, v, h => by
    by_cases hk : ix z = k
    · exact Or.inr ⟨[], z, w, rfl, hk, h.1.2, h.2.1.symm, h.2.2⟩
    · have hz : ix z ∈ t := by
        rcases List.mem_append.mp h.1.1 with x | x
        · exact x
        · exact absurd (List.mem_singleton.mp x) hk
      rcases Wk.split h.2.2 with x | ⟨w1, z', w2, e, h1, h2, h3, h4⟩
      · exact Or.inl ⟨⟨hz, h.1.2⟩, h.2.1, x⟩
      · exact Or.inr ⟨z :: w1, z', w2, by rw [e]; rfl, h1, h2, ⟨⟨hz, h.1.2⟩, h.2.1, h3⟩, h4⟩
/-- two numbers of one run that begin at one node are one -/
theorem num_unique {es : List E} {z z' : Int} (hz : z ≠ 0) (hz' : z' ≠ 0) (hi : ix z = ix z') (hf : fr es z = fr es z') (hne : (ed es (ix z).toNat).1 ≠ (ed es (ix z).toNat).2) : z = z' := by
  unfold fr at hf
  rw [← hi] at hf
  unfold ix at hi
  by_cases a : z > 0 <;> by_cases b : z' > 0
  · rw [if_pos a, if_pos b] at hi; omega
  · rw [if_pos a, if_neg b] at hf; exact absurd hf hne
  · rw [if_neg a, if_pos b] at hf; exact absurd hf.symm hne
  · rw [if_neg a, if_neg b] at hi; omega
def Forest (n : Int) (es : List E) (t : List Int) : Prop := Ends n (pk es t) ∧ comps n (pk es t) + t.length = n.toNat
theorem pk_snoc (es : List E) (t : List Int) (k : Int) : pk es (t ++ [k]) = pk es t ++ [ed es k.toNat] := by unfold pk; simp
theorem pk_length (es : List E) (t : List Int) : (pk es t).length = t.length := by unfold pk; simp
theorem Forest.init {n : Int} {es : List E} {t : List Int} {k : Int} (h : Forest n es (t ++ [k])) : Forest n es t ∧ lab (pk es t) (ed es k.toNat).1 ≠ lab (pk es t) (ed es k.toNat).2 ∧ (ed es k.toNat).1 ≠ (ed es k.toNat).2 := by
  obtain ⟨h1, h2⟩ := h
  rw [pk_snoc] at h1 h2
  have c := comps_snoc h1
  have c2 := comps_append (a := []) (b := pk es t) h1.left
  rw [comps_nil, List.nil_append, pk_length] at c2
  rw [List.length_append] at h2
  simp only [List.length_cons, List.length_nil] at h2
  have hne := (h1 (ed es k.toNat) (by simp)).2.2.2.2
  by_cases hs : lab (pk es t) (ed es k.toNat).1 = lab (pk es t) (ed es k.toNat).2
  · rw [if_pos hs] at c; omega
  · rw [if_neg hs] at c
    exact ⟨⟨h1.left, by omega⟩, hs, hne⟩
theorem ends_eq {es : List E} {L : Int → Int} {z z' : Int} (hi : ix z = ix z') (hne : L (ed es (ix z).toNat).1 ≠ L (ed es (ix z).toNat).2) :
    (L (too es z) = L (fr es z') → too es z = fr es z') ∧ (L (fr es z) = L (fr es z') → fr es z = fr es z') := by
  rcases fr_too (es := es) (z := z) with x | x <;> rcases fr_too (es := es) (z := z') with y | y <;> rw [x.1, x.2, y.1, ← hi]
  · exact ⟨fun q => absurd q.symm hne, fun _ => rfl⟩
  · exact ⟨fun _ => rfl, fun q => absurd q hne⟩
  · exact ⟨fun _ => rfl, fun q => absurd q.symm hne⟩
  · exact ⟨fun q => absurd q hne, fun _ => rfl⟩
theorem way_unique {n : Int} {es : List E} (t : List Int) : Forest n es t → ∀ {u v : Int} {w w' : List Int}, Wk es t u w v → Red w → Wk es t u w' v → Red w' → w = w' := by
  induction t using snoc_ind with
  | h0 =>
    intro _ u v w w' h _ h' _
    cases w with
    | cons z w => exact absurd h.1.1 (by simp)
    | nil =>
      cases w' with
      | cons z w => exact absurd h'.1.1 (by simp)
      | nil => rfl
  | h1 t k ih =>
    intro hF u v w w' h hr h' hr'
    obtain ⟨hf, hne, hab⟩ := hF.init
    have ih := fun {u v : Int} {w w' : List Int} => ih hf (u := u) (v := v) (w := w) (w' := w')
    -- behind a use of k there is no other one
    have once : ∀ {z : Int} {w : List Int} {v : Int}, ix z = k → Red (z :: w) → Wk es (t ++ [k]) (too es z) w v → Wk es t (too es z) w v := by
      intro z w v hz hr hw
      rcases hw.split with x | ⟨w1, z', w2, rfl, h1, h2, h3, h4⟩
      · exact x
      · exfalso
        have l := h3.lab
        have e := (ends_eq (es := es) (L := lab (pk es t)) (hz.trans h1.symm) (by rw [hz]; exact hne)).1 l
        have e2 : w1 = [] := ih h3 (Red.left hr.2) (show Wk es t (too es z) [] (fr es z') from e) trivial
        subst e2
        exact hr.1 z' rfl (hz.trans h1.symm)
    rcases h.split with x | ⟨w1, z, w2, rfl, a1, a2, a3, a4⟩
    · rcases h'.split with y | ⟨w1', z', w2', rfl, b1, b2, b3, b4⟩
      · exact ih x hr y hr'
      · exfalso
        have q := once b1 (Red.right hr') b4
        have l1 := b3.lab
        have l2 := q.lab
        have l3 := x.lab
        have l4 : lab (pk es t) (fr es z') = lab (pk es t) (too es z') := by rw [l2, ← l1, l3]
        rcases fr_too (es := es) (z := z') with y | y <;> rw [y.1, y.2, b1] at l4
        · exact hne l4
        · exact hne l4.symm
    · have p := once a1 (Red.right hr) a4
      rcases h'.split with y | ⟨w1', z', w2', rfl, b1, b2, b3, b4⟩
      · exfalso
        have l1 := a3.lab
        have l2 := p.lab
        have l3 := y.lab
        have l4 : lab (pk es t) (fr es z) = lab (pk es t) (too es z) := by rw [l2, ← l1, l3]
        rcases fr_too (es := es) (z := z) with y | y <;> rw [y.1, y.2, a1] at l4
        · exact hne l4
        · exact hne l4.symm
      · have q := once b1 (Red.right hr') b4
        have l : lab (pk es t) (fr es z) = lab (pk es t) (fr es z') := by rw [← a3.lab, ← b3.lab]
        have e := (ends_eq (es := es) (L := lab (pk es t)) (a1.trans b1.symm) (by rw [a1]; exact hne)).2 l
        have ez := num_unique a2 b2 (a1.trans b1.symm) e (by rw [a1]; exact hab)
        subst ez
        rw [ih a3 (Red.left hr) b3 (Red.left hr'), ih p (Red.right hr).2 q (Red.right hr').2]
theorem Wk.nodes {es : List E} {t : List Int} : ∀ {w : List Int} {u v : Int}, Wk es t u w v → ∀ z ∈ w, ix z ∈ t ∧ Gr.lab (pk es t) (fr es z) = Gr.lab (pk es t) u
  | [], u, v, _, z, hz => by cases hz
  | y :: w, u, v, h, z, hz => by
    rcases List.mem_cons.mp hz with rfl | hz
    · exact ⟨h.1.1, by rw [h.2.1]⟩
    · have := Wk.nodes h.2.2 z hz
      exact ⟨this.1, by rw [this.2, ← step_lab h.1.1, h.2.1]⟩
/-- no run is used twice -/
theorem way_nodup {n : Int} {es : List E} (t : List Int) : Forest n es t → (∀ k ∈ t, 0 ≤ k) → t.Nodup → ∀ {u v : Int} {w : List Int}, Wk es t u w v → Red w → (w.map ix).Nodup := by
  induction t using snoc_ind with
  | h0 =>
    intro _ _ _ u v w h _
    cases w with
    | cons z w => exact absurd h.1.1 (by simp)
    | nil => exact List.nodup_nil
  | h1 t k ih =>
    intro hF hp hnd u v w h hr
    obtain ⟨hf, hne, hab⟩ := hF.init
    have hkt : k ∉ t := by
      rw [List.nodup_append] at hnd
      intro hk
      exact hnd.2.2 k hk k (by simp) rfl
    have hndt : t.Nodup := by rw [List.nodup_append] at hnd; exact hnd.1
    have ih := fun {u v : Int} {w : List Int} => ih hf (fun k hk => hp k (List.mem_append_left _ hk)) hndt (u := u) (v := v) (w := w)
    rcases h.split with x | ⟨w1, z, w2, rfl, a1, a2, a3, a4⟩
    · exact ih x hr
    · have hr2 := Red.right hr
      have p : Wk es t (too es z) w2 v := by
        rcases a4.split with x | ⟨w1', z', w2', rfl, h1, h2, h3, h4⟩
        · exact x
        · exfalso
          have l := h3.lab
          have e := (ends_eq (es := es) (L := lab (pk es t)) (a1.trans h1.symm) (by rw [a1]; exact hne)).1 l
          have e2 : w1' = [] := way_unique t hf h3 (Red.left hr2.2) (show Wk es t (too es z) [] (fr es z') from e) trivial
          subst e2
          exact hr2.1 z' rfl (a1.trans h1.symm)
      have n1 := ih a3 (Red.left hr)
      have n2 := ih p hr2.2
      have hl : lab (pk es t) (fr es z) ≠ lab (pk es t) (too es z) := by
        rcases fr_too (es := es) (z := z) with y | y <;> rw [y.1, y.2, a1]
        · exact hne
        · exact fun q => hne q.symm
      rw [List.map_append, List.nodup_append, List.map_cons, List.nodup_cons]
      refine ⟨n1, ⟨?_, n2⟩, ?_⟩
      · intro hm
        obtain ⟨y, hy, he⟩ := List.mem_map.mp hm
        have := (p.nodes y hy).1
        rw [he, a1] at this
        exact hkt this
      · intro b hb c hc hbc
        obtain ⟨y, hy, rfl⟩ := List.mem_map.mp hb
        have q := a3.nodes y hy
        rcases List.mem_cons.mp hc with rfl | hc
        · rw [hbc, a1] at q; exact hkt q.1
        · obtain ⟨y', hy', rfl⟩ := List.mem_map.mp hc
          have q' := p.nodes y' hy'
          apply hl
          rw [← q'.2, ← a3.lab, ← q.2]
          -- one run, either direction
          have s1 := step_lab (es := es) q.1
          rcases fr_too (es := es) (z := y) with x | x <;> rcases fr_too (es := es) (z := y') with x' | x' <;> rw [x.1, x.2] at s1 <;> rw [x.1, x'.1, ← hbc]
          · exact s1
          · exact s1
theorem nodup_bound : ∀ (N : Nat) (l : List Int), l.Nodup → (∀ x ∈ l, 0 ≤ x ∧ x < N) → l.length ≤ N
  | 0, l, _, h => by
    cases l with
    | nil => simp
    | cons x l => have := h x (by simp); omega
  | N + 1, l, hn, h => by
    have h1 := nodup_bound N (l.erase (N : Int)) (hn.erase _) (fun x hx => by
      have := h x (List.mem_of_mem_erase hx)
      have ne : x ≠ (N : Int) := fun e => by
        subst e
        exact (List.Nodup.mem_erase_iff hn).mp hx |>.1 rfl
      omega)
    rw [List.length_erase] at h1
    split at h1 <;> omega
/-- the sum of the rises of a way is the difference of the heights of its ends -/
def rise (rs : List R) (z : Int) : Int := if z > 0 then (rs.getD (ix z).toNat (0, 0, 0)).2.2 else - (rs.getD (ix z).toNat (0, 0, 0)).2.2
theorem rise_pot {rs : List R} {P : Int → Int} {z : Int} (h : P (rs.getD (ix z).toNat (0, 0, 0)).2.1 - P (rs.getD (ix z).toNat (0, 0, 0)).1 = (rs.getD (ix z).toNat (0, 0, 0)).2.2) : rise rs z = P (too (eds rs) z) - P (fr (eds rs) z) := by
  unfold rise too fr
  rw [ed_eds]
  split <;> simp only <;> omega
theorem way_rise {rs : List R} {P : Int → Int} {t : List Int} (hP : ∀ k ∈ t, P (rs.getD k.toNat (0, 0, 0)).2.1 - P (rs.getD k.toNat (0, 0, 0)).1 = (rs.getD k.toNat (0, 0, 0)).2.2) : ∀ {w : List Int} {u v : Int}, Wk (eds rs) t u w v → (w.map (rise rs)).sum = P v - P u
  | [], u, v, h => by obtain rfl : u = v := h; simp
  | z :: w, u, v, h => by
    rw [List.map_cons, List.sum_cons, way_rise hP h.2.2, rise_pot (hP _ h.1.1), h.2.1]
    omega
end Go.Proofs.Ytbnndmkkmceenaa.Gr
/- Two searches for the way along a tree find the one way. Plain Lean. -/
namespace Go.Proofs.Ytbnndmkkmceenaa.Gr
set_option linter.unusedVariables false
set_option linter.unusedSimpArgs false
/-! what both come to -/
def num (es : List E) (node k : Int) : Int := if (ed es k.toNat).2 = node then -(k + 1) else k + 1
def nxt (es : List E) (node k : Int) : Int := if (ed es k.toNat).2 = node then (ed es k.toNat).1 else (ed es k.toNat).2
theorem num_facts {es : List E} {node k : Int} (hk : 0 ≤ k) (h : (ed es k.toNat).1 = node ∨ (ed es k.toNat).2 = node) : ix (num es node k) = k ∧ num es node k ≠ 0 ∧ fr es (num es node k) = node ∧ too es (num es node k) = nxt es node k := by
  unfold num nxt
  by_cases c : (ed es k.toNat).2 = node
  · rw [if_pos c, if_pos c]
    have e : ix (-(k + 1)) = k := by unfold ix; rw [if_neg (by omega)]; omega
    refine ⟨e, by omega, ?_, ?_⟩
    · unfold fr; rw [if_neg (by omega), e]; exact c
    · unfold too; rw [if_neg (by omega), e]
  · rw [if_neg c, if_neg c]
    have e : ix (k + 1) = k := by unfold ix; rw [if_pos (by omega)]; omega
    refine ⟨e, by omega, ?_, ?_⟩
    · unfold fr; rw [if_pos (by omega), e]
      rcases h with h | h
      · exact h
      · exact absurd h c
    · unfold too; rw [if_pos (by omega), e]
theorem num_of {es : List E} {z : Int} (_ : z ≠ 0) (hne : (ed es (ix z).toNat).1 ≠ (ed es (ix z).toNat).2) : num es (fr es z) (ix z) = z ∧ ((ed es (ix z).toNat).1 = fr es z ∨ (ed es (ix z).toNat).2 = fr es z) := by
  have h : (ed es (ix z).toNat).1 = fr es z ∨ (ed es (ix z).toNat).2 = fr es z := by
    rcases fr_too (es := es) (z := z) with x | x
    · left; exact x.1.symm
    · right; exact x.1.symm
  refine ⟨?_, h⟩
  unfold num
  by_cases p : z > 0
  · have f : fr es z = (ed es (ix z).toNat).1 := by unfold fr; rw [if_pos p]
    rw [if_neg (by rw [f]; exact fun q => hne q.symm)]
    unfold ix; rw [if_pos p]; omega
  · have f : fr es z = (ed es (ix z).toNat).2 := by unfold fr; rw [if_neg p]
    rw [if_pos f.symm]
    unfold ix; rw [if_neg p]; omega
/-! the search that calls itself -/
def wloop (es : List E) (rec : Int → Int → Option (List Int × Bool)) (node last : Int) : List Int → Option (List Int × Bool)
  | [] => some ([], false)
  | k :: ks => if k = last then wloop es rec node last ks else
      if (ed es k.toNat).1 ≠ node ∧ (ed es k.toNat).2 ≠ node then wloop es rec node last ks else
      (rec (nxt es node k) k).bind fun r => if r.2 = true then some (num es node k :: r.1, true) else wloop es rec node last ks
def lway (es : List E) (t : List Int) (goal : Int) : Nat → Int → Int → Option (List Int × Bool)
  | 0, _, _ => none
  | d + 1, node, last => if node = goal then some ([], true) else wloop es (fun x l => lway es t goal d x l) node last t
structure Tree (n : Int) (es : List E) (t : List Int) : Prop where
  forest : Forest n es t
  nodup : t.Nodup
  range : ∀ k ∈ t, 0 ≤ k ∧ k < es.length
/-- p leads to the node and ends with the run last -/
def Came (es : List E) (t : List Int) (p : List Int) (node last : Int) : Prop := (∃ u, Wk es t u p node) ∧ Red p ∧ ((p = [] ∧ last ∉ t) ∨ ∃ y, p.getLast? = some y ∧ ix y = last)
theorem Came.bound {n : Int} {es : List E} {t : List Int} (hT : Tree n es t) {p : List Int} {node last : Int} (h : Came es t p node last) : p.length ≤ es.length := by
  obtain ⟨⟨u, hw⟩, hr, _⟩ := h
  have := way_nodup t hT.forest (fun k hk => (hT.range k hk).1) hT.nodup hw hr
  have b := nodup_bound es.length (p.map ix) this (fun x hx => by
    obtain ⟨z, hz, rfl⟩ := List.mem_map.mp hx
    exact hT.range _ (hw.nodes z hz).1)
  rwa [List.length_map] at b
theorem Came.red {es : List E} {t : List Int} {p : List Int} {node last : Int} (h : Came es t p node last) {z : Int} (_ : ix z ∈ t) (hn : ix z ≠ last) : Red (p ++ [z]) := by
  refine h.2.1.snoc (fun y hy => ?_)
  rcases h.2.2 with ⟨rfl, _⟩ | ⟨y', hy', e⟩
  · cases hy
  · rw [hy] at hy'
    obtain rfl := Option.some.inj hy'
    rw [e]; exact fun q => hn q.symm
theorem red_join : ∀ {p w : List Int} {z : Int}, Red (p ++ [z]) → Red (z :: w) → Red (p ++ z :: w)
  | [], w, z, _, h => h
  | c :: p, w, z, h, h2 => by
    refine ⟨fun y hy => h.1 y ?_, red_join (p := p) h.2 h2⟩
    cases p with
    | nil => simpa using hy
    | cons d p => simpa using hy
theorem Came.step {es : List E} {t : List Int} {p : List Int} {node last : Int} (h : Came es t p node last) {z : Int} (hz : ix z ∈ t) (h0 : z ≠ 0) (hf : fr es z = node) (hn : ix z ≠ last) : Came es t (p ++ [z]) (too es z) (ix z) := by
  obtain ⟨⟨u, hw⟩, hr, hl⟩ := h
  refine ⟨⟨u, hw.append (show Wk es t node [z] (too es z) from ⟨⟨hz, h0⟩, hf, rfl⟩)⟩, Came.red ⟨⟨u, hw⟩, hr, hl⟩ hz hn, Or.inr ⟨z, by simp, rfl⟩⟩
/-- the answer of a search at a node, behind the run last -/
def Ans (es : List E) (t : List Int) (goal node last : Int) (r : List Int × Bool) : Prop :=
  (r.2 = true ∧ Wk es t node r.1 goal ∧ Red r.1 ∧ (∀ y, r.1.head? = some y → ix y ≠ last)) ∨ (r = ([], false) ∧ ∀ w, Wk es t node w goal → Red w → ¬ ∀ y, w.head? = some y → ix y ≠ last)
theorem wloop_ok {n : Int} {es : List E} {t : List Int} (hT : Tree n es t) {goal node last : Int} {p : List Int} {rec : Int → Int → Option (List Int × Bool)} (hp : Came es t p node last) (hne : node ≠ goal)
    (hrec : ∀ z, ix z ∈ t → z ≠ 0 → fr es z = node → ix z ≠ last → ∃ r, rec (too es z) (ix z) = some r ∧ Ans es t goal (too es z) (ix z) r) :
    ∀ (ks pre : List Int), t = pre ++ ks → (∀ w, Wk es t node w goal → Red w → (∀ y, w.head? = some y → ix y ≠ last) → ∀ y, w.head? = some y → ix y ∉ pre) → ∃ r, wloop es rec node last ks = some r ∧ Ans es t goal node last r
  | [], pre, ht, hno => by
    refine ⟨([], false), rfl, Or.inr ⟨rfl, fun w hw hr hl => ?_⟩⟩
    cases w with
    | nil => exact hne hw
    | cons z w =>
      have := hno _ hw hr hl z rfl
      rw [List.append_nil] at ht
      rw [← ht] at this
      exact this hw.1.1
  | k :: ks, pre, ht, hno => by
    have hkt : k ∈ t := by rw [ht]; simp
    have hk := hT.range k hkt
    have next : (∀ w, Wk es t node w goal → Red w → (∀ y, w.head? = some y → ix y ≠ last) → ∀ y, w.head? = some y → ix y ≠ k) → ∃ r, wloop es rec node last ks = some r ∧ Ans es t goal node last r := by
      intro hk2
      refine wloop_ok hT hp hne hrec ks (pre ++ [k]) (by simp [ht]) ?_
      intro w hw hr hl y hy hm
      rcases List.mem_append.mp hm with hm | hm
      · exact hno w hw hr hl y hy hm
      · exact hk2 w hw hr hl y hy (List.mem_singleton.mp hm)
    unfold wloop
    by_cases c : k = last
    · rw [if_pos c]
      exact next (fun w hw hr hl y hy => by rw [c]; exact hl y hy)
    · rw [if_neg c]
      have hE := hT.forest.1 _ (List.mem_map.mpr ⟨k, hkt, rfl⟩ : ed es k.toNat ∈ pk es t)
      by_cases c2 : (ed es k.toNat).1 ≠ node ∧ (ed es k.toNat).2 ≠ node
      · rw [if_pos c2]
        refine next (fun w hw hr hl y hy e => ?_)
        cases w with
        | nil => cases hy
        | cons z w =>
          obtain rfl : z = y := by simpa using hy
          have hf := hw.2.1
          rcases fr_too (es := es) (z := z) with x | x
          · rw [x.1, e] at hf; exact c2.1 hf
          · rw [x.1, e] at hf; exact c2.2 hf
      · rw [if_neg c2]
        have c3 : (ed es k.toNat).1 = node ∨ (ed es k.toNat).2 = node := by
          by_cases a : (ed es k.toNat).1 = node
          · exact Or.inl a
          · by_cases b : (ed es k.toNat).2 = node
            · exact Or.inr b
            · exact absurd ⟨a, b⟩ c2
        obtain ⟨f1, f2, f3, f4⟩ := num_facts hk.1 c3
        have hr0 := hrec (num es node k) (by rw [f1]; exact hkt) f2 f3 (by rw [f1]; exact c)
        rw [f4, f1] at hr0
        obtain ⟨r, e1, e2⟩ := hr0
        rw [e1, Option.bind_some]
        rcases e2 with ⟨g1, g2, g3, g4⟩ | ⟨g1, g2⟩
        · rw [if_pos g1]
          refine ⟨_, rfl, Or.inl ⟨rfl, ⟨⟨by rw [f1]; exact hkt, f2⟩, f3, by rw [f4]; exact g2⟩, ⟨fun y hy => ?_, g3⟩, fun y hy => ?_⟩⟩
          · rw [f1]; exact fun q => g4 y hy q.symm
          · obtain rfl : num es node k = y := by simpa using hy
            rw [f1]; exact c
        · subst g1
          rw [if_neg (by simp)]
          refine next (fun w hw hr hl y hy e => ?_)
          cases w with
          | nil => cases hy
          | cons z w =>
            obtain rfl : z = y := by simpa using hy
            have q := num_of (es := es) (z := z) hw.1.2 (by rw [e]; exact hE.2.2.2.2)
            rw [hw.2.1, e] at q
            have hz : too es z = nxt es node k := by rw [← q.1, f4]
            refine g2 w (by rw [← hz]; exact hw.2.2) hr.2 (fun y hy => ?_)
            have := hr.1 y hy
            rw [e] at this
            exact fun q => this q.symm
theorem lway_ok {n : Int} {es : List E} {t : List Int} (hT : Tree n es t) {goal : Int} : ∀ (d : Nat) (p : List Int) (node last : Int), Came es t p node last → es.length < p.length + d → ∃ r, lway es t goal d node last = some r ∧ Ans es t goal node last r
  | 0, p, node, last, hp, hd => by have := hp.bound hT; omega
  | d + 1, p, node, last, hp, hd => by
    unfold lway
    by_cases c : node = goal
    · rw [if_pos c]
      exact ⟨_, rfl, Or.inl ⟨rfl, c, trivial, fun y hy => by cases hy⟩⟩
    · rw [if_neg c]
      refine wloop_ok hT hp c (fun z hz h0 hf hn => ?_) t [] rfl (fun w _ _ _ y _ => by simp)
      exact lway_ok hT d (p ++ [z]) (too es z) (ix z) (hp.step hz h0 hf hn) (by rw [List.length_append]; simp only [List.length_cons, List.length_nil]; omega)
/-- the search that calls itself finds the way, if there is one -/
theorem lway_way {n : Int} {es : List E} {t : List Int} (hT : Tree n es t) {u v : Int} {w : List Int} (hw : Wk es t u w v) (hr : Red w) {d : Nat} (hd : es.length < d) : lway es t v d u (-1) = some (w, true) := by
  have hm1 : (-1 : Int) ∉ t := fun h => by have := hT.range _ h; omega
  obtain ⟨r, e, a⟩ := lway_ok hT (goal := v) d [] u (-1) ⟨⟨u, rfl⟩, trivial, Or.inl ⟨rfl, hm1⟩⟩ (by simpa using hd)
  have hl : ∀ y, w.head? = some y → ix y ≠ -1 := by
    intro y hy q
    cases w with
    | nil => cases hy
    | cons z w =>
      obtain rfl : z = y := by simpa using hy
      have := hw.1.1
      rw [q] at this
      exact hm1 this
  rw [e]
  rcases a with ⟨h1, h2, h3, _⟩ | ⟨_, h2⟩
  · rw [way_unique t hT.forest hw hr h2 h3, ← h1]
  · exact absurd hl (h2 w hw hr)
/-! the search with a stack -/
abbrev Br := Int × List Int
def tin (es : List E) (node : Int) (way : List Int) : List Int → List Bool → List Br → List Bool × List Br
  | [], S, st => (S, st)
  | k :: ks, S, st => if (ed es k.toNat).1 ≠ node ∧ (ed es k.toNat).2 ≠ node then tin es node way ks S st else
      if kt S (nxt es node k) = true then tin es node way ks S st else tin es node way ks (S.set (nxt es node k).toNat true) (st ++ [(nxt es node k, way ++ [num es node k])])
def topB (st : List Br) : Br := st.getD (st.length - 1) (0, [])
def twh (es : List E) (t : List Int) (goal : Int) : Nat → List Bool → List Br → Option (List Int)
  | 0, _, _ => none
  | d + 1, S, st => if st.length > 0 then (if (topB st).1 = goal then some (topB st).2 else twh es t goal d (tin es (topB st).1 (topB st).2 t S (st.take (st.length - 1))).1 (tin es (topB st).1 (topB st).2 t S (st.take (st.length - 1))).2) else some []
def unseen (n : Int) (S : List Bool) : Nat := (List.range n.toNat).countP (fun i : Nat => !kt S i)
theorem unseen_set {n : Int} {S : List Bool} {x : Int} (hl : n.toNat ≤ S.length) (h0 : 0 ≤ x) (h1 : x < n) (hx : kt S x = false) : unseen n (S.set x.toNat true) + 1 = unseen n S := by
  unfold unseen
  refine countP_drop _ _ x.toNat _ (by omega) (by rw [show ((x.toNat : Nat) : Int) = x by omega, hx]; rfl) ?_
  intro i hi
  rw [kt_set h0 (by omega) (by omega)]
  by_cases e : (i : Int) = x
  · rw [if_pos e]
    have h2 : (i != x.toNat) = false := by simp; omega
    rw [h2, Bool.and_false]; rfl
  · rw [if_neg e]
    have h2 : (i != x.toNat) = true := by simp; omega
    rw [h2, Bool.and_true]
theorem Wk.last {es : List E} {t : List Int} {y : Int} : ∀ {q : List Int} {u v : Int}, Wk es t u (q ++ [y]) v → too es y = v
  | [], _, _, h => h.2.2
  | _ :: q, _, _, h => Wk.last (q := q) h.2.2
structure WI (n : Int) (es : List E) (t : List Int) (u goal : Int) (S : List Bool) (st : List Br) (cur : Int) : Prop where
  len : n.toNat ≤ S.length
  way : ∀ b ∈ st, (0 ≤ b.1 ∧ b.1 < n) ∧ Wk es t u b.2 b.1 ∧ Red b.2 ∧ kt S b.1 = true ∧ (∀ y, b.2.getLast? = some y → kt S (fr es y) = true)
  cl : ∀ i, 0 ≤ i → i < n → kt S i = true → i ≠ cur → (∀ b ∈ st, b.1 ≠ i) → i ≠ goal ∧ ∀ k ∈ t, (ed es k.toNat).1 = i ∨ (ed es k.toNat).2 = i → kt S (nxt es i k) = true
theorem tin_ok {n : Int} {es : List E} {t : List Int} (hT : Tree n es t) {u goal node : Int} {way : List Int} (hnode : 0 ≤ node ∧ node < n) (hw : Wk es t u way node) (hr : Red way) : ∀ (ks : List Int) (S : List Bool) (st : List Br), (∀ k ∈ ks, k ∈ t) → WI n es t u goal S st node → kt S node = true → (∀ y, way.getLast? = some y → kt S (fr es y) = true) →
    WI n es t u goal (tin es node way ks S st).1 (tin es node way ks S st).2 node ∧ (∀ i, 0 ≤ i → kt S i = true → kt (tin es node way ks S st).1 i = true) ∧ (tin es node way ks S st).2.length + unseen n (tin es node way ks S st).1 = st.length + unseen n S ∧ (∀ k ∈ ks, (ed es k.toNat).1 = node ∨ (ed es k.toNat).2 = node → kt (tin es node way ks S st).1 (nxt es node k) = true) ∧ (tin es node way ks S st).1.length = S.length
  | [], S, st, _, h, _, _ => ⟨h, (fun _ _ x => x), rfl, (fun k hk => by cases hk), rfl⟩
  | k :: ks, S, st, hks, h, hn, hy => by
    have hkt := hks k (by simp)
    have hk := hT.range k hkt
    have hE := hT.forest.1 _ (List.mem_map.mpr ⟨k, hkt, rfl⟩ : ed es k.toNat ∈ pk es t)
    have hks' : ∀ k ∈ ks, k ∈ t := fun k hk => hks k (List.mem_cons_of_mem _ hk)
    unfold tin
    by_cases c2 : (ed es k.toNat).1 ≠ node ∧ (ed es k.toNat).2 ≠ node
    · rw [if_pos c2]
      obtain ⟨r1, r2, r3, r4, r5⟩ := tin_ok hT hnode hw hr ks S st hks' h hn hy
      refine ⟨r1, r2, r3, fun j hj hh => ?_, r5⟩
      rcases List.mem_cons.mp hj with rfl | hj
      · rcases hh with hh | hh
        · exact absurd hh c2.1
        · exact absurd hh c2.2
      · exact r4 j hj hh
    · rw [if_neg c2]
      have c3 : (ed es k.toNat).1 = node ∨ (ed es k.toNat).2 = node := by
        by_cases a : (ed es k.toNat).1 = node
        · exact Or.inl a
        · by_cases b : (ed es k.toNat).2 = node
          · exact Or.inr b
          · exact absurd ⟨a, b⟩ c2
      obtain ⟨f1, f2, f3, f4⟩ := num_facts hk.1 c3
      have hxn : 0 ≤ nxt es node k ∧ nxt es node k < n := by
        unfold nxt; split
        · exact ⟨hE.1, hE.2.1⟩
        · exact ⟨hE.2.2.1, hE.2.2.2.1⟩
      by_cases c4 : kt S (nxt es node k) = true
      · rw [if_pos c4]
        obtain ⟨r1, r2, r3, r4, r5⟩ := tin_ok hT hnode hw hr ks S st hks' h hn hy
        refine ⟨r1, r2, r3, fun j hj hh => ?_, r5⟩
        rcases List.mem_cons.mp hj with rfl | hj
        · exact r2 _ hxn.1 c4
        · exact r4 j hj hh
      · rw [if_neg c4]
        have c5 : kt S (nxt es node k) = false := by simpa using c4
        have hlen := h.len
        have hset : ∀ i, 0 ≤ i → kt (S.set (nxt es node k).toNat true) i = if i = nxt es node k then true else kt S i := fun i h0 => kt_set hxn.1 (by omega) h0
        have up : ∀ i, 0 ≤ i → kt S i = true → kt (S.set (nxt es node k).toNat true) i = true := by
          intro i h0 hi
          rw [hset i h0]; split
          · rfl
          · exact hi
        have frn : ∀ z, ix z ∈ t → 0 ≤ fr es z := by
          intro z hz
          have := hT.forest.1 _ (mem_pk (es := es) hz)
          rcases fr_too (es := es) (z := z) with x | x <;> rw [x.1] <;> omega
        have hred : Red (way ++ [num es node k]) := by
          refine hr.snoc (fun y hyl e => ?_)
          have s := hy y hyl
          -- the last run again: its other end has been seen
          have hm : y ∈ way := List.mem_of_getLast? hyl
          have hz := (hw.nodes y hm).1
          have hto : too es y = node := by
            obtain ⟨q, hq⟩ := List.getLast?_eq_some_iff.mp hyl
            rw [hq] at hw
            exact hw.last
          rw [f1] at e
          have : fr es y = nxt es node k := by
            have q := hE.2.2.2.2
            unfold nxt
            rcases fr_too (es := es) (z := y) with x | x
            · rw [x.2, e] at hto
              rw [if_pos hto, x.1, e]
            · rw [x.2, e] at hto
              rw [if_neg (fun z => q (by rw [hto, z])), x.1, e]
          rw [this, c5] at s
          cases s
        have hW : WI n es t u goal (S.set (nxt es node k).toNat true) (st ++ [(nxt es node k, way ++ [num es node k])]) node := by
          refine ⟨by rw [List.length_set]; exact hlen, ?_, ?_⟩
          · intro b hb
            rcases List.mem_append.mp hb with hb | hb
            · have z := h.way b hb
              refine ⟨z.1, z.2.1, z.2.2.1, up _ z.1.1 z.2.2.2.1, fun y hyl => up _ (frn y ?_) (z.2.2.2.2 y hyl)⟩
              exact (z.2.1.nodes y (List.mem_of_getLast? hyl)).1
            · obtain rfl := List.mem_singleton.mp hb
              refine ⟨hxn, hw.append (show Wk es t node [num es node k] (nxt es node k) from ⟨⟨by rw [f1]; exact hkt, f2⟩, f3, f4⟩), hred, by rw [hset _ hxn.1, if_pos rfl], fun y hyl => ?_⟩
              have : num es node k = y := by simpa using hyl
              rw [← this, f3]
              exact up _ hnode.1 hn
          · intro i h0 h1 hs hcur hst
            have hix : i ≠ nxt es node k := fun e => hst (nxt es node k, way ++ [num es node k]) (by simp) e.symm
            rw [hset i h0, if_neg hix] at hs
            have z := h.cl i h0 h1 hs hcur (fun b hb => hst b (List.mem_append_left _ hb))
            refine ⟨z.1, fun j hj hh => ?_⟩
            have hEj := hT.forest.1 _ (List.mem_map.mpr ⟨j, hj, rfl⟩ : ed es j.toNat ∈ pk es t)
            refine up _ ?_ (z.2 j hj hh)
            unfold nxt; split
            · exact hEj.1
            · exact hEj.2.2.1
        obtain ⟨r1, r2, r3, r4, r5⟩ := tin_ok hT hnode hw hr ks _ _ hks' hW (up _ hnode.1 hn) (fun y hyl => up _ (frn y (hw.nodes y (List.mem_of_getLast? hyl)).1) (hy y hyl))
        have hu := unseen_set hlen hxn.1 hxn.2 c5
        refine ⟨r1, fun i h0 hi => r2 i h0 (up i h0 hi), ?_, fun j hj hh => ?_, by rw [r5, List.length_set]⟩
        · rw [r3, List.length_append]
          simp only [List.length_cons, List.length_nil]
          omega
        · rcases List.mem_cons.mp hj with rfl | hj
          · exact r2 _ hxn.1 (by rw [hset _ hxn.1, if_pos rfl])
          · exact r4 j hj hh
theorem top_last {st : List Br} (h : 0 < st.length) : st = st.take (st.length - 1) ++ [topB st] := by
  unfold topB
  rw [List.getD_eq_getElem?_getD, List.getElem?_eq_getElem (by omega), Option.getD_some]
  conv => lhs; rw [← List.take_append_drop (st.length - 1) st]
  congr 1
  rw [List.drop_eq_getElem_cons (by omega), List.drop_eq_nil_of_le (by omega)]
theorem twh_ok {n : Int} {es : List E} {t : List Int} (hT : Tree n es t) (w : Whole n (pk es t)) {u goal : Int} (hu : 0 ≤ u ∧ u < n) (hg : 0 ≤ goal ∧ goal < n) : ∀ (d : Nat) (S : List Bool) (st : List Br), WI n es t u goal S st (-1) → kt S u = true → st.length + unseen n S < d →
    ∃ p, twh es t goal d S st = some p ∧ Wk es t u p goal ∧ Red p
  | 0, S, st, _, _, hd => by omega
  | d + 1, S, st, h, hus, hd => by
    unfold twh
    by_cases c : st.length > 0
    · rw [if_pos c]
      have hst := top_last c
      generalize topB st = b at *
      generalize hq : st.take (st.length - 1) = q at *
      have hl : st.length = q.length + 1 := by rw [hst]; simp
      have z := h.way b (by rw [hst]; simp)
      by_cases c2 : b.1 = goal
      · rw [if_pos c2]
        exact ⟨b.2, rfl, by rw [← c2]; exact z.2.1, z.2.2.1⟩
      · rw [if_neg c2]
        have hW : WI n es t u goal S q b.1 := by
          refine ⟨h.len, fun x hx => h.way x (by rw [hst]; simp [hx]), fun i h0 h1 hs hc hb => ?_⟩
          refine h.cl i h0 h1 hs (by omega) (fun x hx => ?_)
          rw [hst] at hx
          rcases List.mem_append.mp hx with hx | hx
          · exact hb x hx
          · rw [List.mem_singleton.mp hx]; exact fun e => hc e.symm
        obtain ⟨r1, r2, r3, r4, r5⟩ := tin_ok hT z.1 z.2.1 z.2.2.1 t S q (fun _ h => h) hW z.2.2.2.1 z.2.2.2.2
        refine twh_ok hT w hu hg d _ _ ⟨r1.len, r1.way, fun i h0 h1 hs _ hb => ?_⟩ (r2 u hu.1 hus) (by omega)
        by_cases e : i = b.1
        · rw [e]
          exact ⟨c2, r4⟩
        · exact r1.cl i h0 h1 hs e hb
    · exfalso
      obtain rfl : st = [] := List.length_eq_zero_iff.mp (by omega)
      have key : ∀ i, 0 ≤ i → i < n → kt S i = true → i ≠ goal ∧ ∀ k ∈ t, (ed es k.toNat).1 = i ∨ (ed es k.toNat).2 = i → kt S (nxt es i k) = true := fun i h0 h1 hs => h.cl i h0 h1 hs (by omega) (fun b hb => by cases hb)
      have con := w.const (fun i => kt S i) (by
        intro e he
        obtain ⟨k, hk, rfl⟩ := List.mem_map.mp he
        have hE := hT.forest.1 _ he
        have e1 : kt S (ed es k.toNat).1 = true → kt S (ed es k.toNat).2 = true := by
          intro hs
          have := (key _ hE.1 hE.2.1 hs).2 k hk (Or.inl rfl)
          unfold nxt at this
          rwa [if_neg (fun q => hE.2.2.2.2 q.symm)] at this
        have e2 : kt S (ed es k.toNat).2 = true → kt S (ed es k.toNat).1 = true := by
          intro hs
          have := (key _ hE.2.2.1 hE.2.2.2.1 hs).2 k hk (Or.inr rfl)
          unfold nxt at this
          rwa [if_pos rfl] at this
        cases a : kt S (ed es k.toNat).1 <;> cases b : kt S (ed es k.toNat).2 <;> simp_all)
      have a := con u hu.1 hu.2
      have b := con goal hg.1 hg.2
      exact (key goal hg.1 hg.2 (by rw [b, ← a]; exact hus)).1 rfl
/-- the search with a stack finds a way, and so the only one -/
theorem twh_way {n : Int} {es : List E} {t : List Int} (hT : Tree n es t) (w : Whole n (pk es t)) {u goal : Int} (hu : 0 ≤ u ∧ u < n) (hg : 0 ≤ goal ∧ goal < n) {S : List Bool} (hS : n.toNat ≤ S.length) (h0 : ∀ i, 0 ≤ i → kt S i = decide (i = u)) {d : Nat} (hd : n.toNat + 1 < d) :
    ∃ p, twh es t goal d S [(u, [])] = some p ∧ Wk es t u p goal ∧ Red p := by
  have hle : unseen n S ≤ n.toNat := by
    unfold unseen
    have := List.countP_le_length (p := fun i : Nat => !kt S i) (l := List.range n.toNat)
    rwa [List.length_range] at this
  refine twh_ok hT w hu hg d S [(u, [])] ⟨hS, ?_, ?_⟩ (by rw [h0 u hu.1]; simp) (by simp only [List.length_cons, List.length_nil]; omega)
  · intro b hb
    obtain rfl := List.mem_singleton.mp hb
    exact ⟨hu, rfl, trivial, by rw [h0 u hu.1]; simp, fun y hy => by cases hy⟩
  · intro i i0 _ hs _ hb
    rw [h0 i i0] at hs
    simp only [decide_eq_true_eq] at hs
    exact absurd hs.symm (hb (u, []) (by simp))
end Go.Proofs.Ytbnndmkkmceenaa.Gr
/- A tree takes in any other run in the place of one of its own; a tree that stands ahead is the first one. Plain Lean. -/
namespace Go.Proofs.Ytbnndmkkmceenaa.Gr
set_option linter.unusedVariables false
set_option linter.unusedSimpArgs false
theorem cut_exists {n : Int} {base : List E} (T : List E) : Ends n (base ++ T) → comps n base < comps n (base ++ T) + T.length → ∃ A e B, T = A ++ e :: B ∧ lab (base ++ A) e.1 = lab (base ++ A) e.2 := by
  induction T using snoc_ind with
  | h0 => intro _ h; simp at h
  | h1 T x ih =>
    intro he h
    rw [← List.append_assoc] at he h
    have c := comps_snoc he
    rw [List.length_append] at h
    simp only [List.length_cons, List.length_nil] at h
    by_cases hs : lab (base ++ T) x.1 = lab (base ++ T) x.2
    · exact ⟨T, x, [], rfl, hs⟩
    · rw [if_neg hs] at c
      obtain ⟨A, e, B, rfl, h1⟩ := ih he.left (by omega)
      exact ⟨A, e, B ++ [x], by simp, h1⟩
/-- some run of a tree can be left out once another run is in -/
theorem exchange {n : Int} {T : List E} {o : E} (hn : 0 < n) (he : Ends n (o :: T)) (hl : (T.length : Int) = n - 1) (w : Whole n T) : ∃ A e B, T = A ++ e :: B ∧ Whole n (o :: (A ++ B)) := by
  have he1 : Ends n ([o] ++ T) := he
  have c0 := comps_snoc (n := n) (es := []) (e := o) he1.left
  have ho := he o (by simp)
  rw [comps_nil, List.nil_append] at c0
  rw [if_neg (by rw [lab_nil]; exact ho.2.2.2.2)] at c0
  have cp := comps_pos he1 hn
  obtain ⟨A, e, B, rfl, h⟩ := cut_exists (n := n) (base := [o]) T he1 (by omega)
  refine ⟨A, e, B, rfl, ?_⟩
  have hs : lab ([o] ++ A ++ B) e.1 = lab ([o] ++ A ++ B) e.2 := by
    rw [← lab_sub (a := [o] ++ A) (b := [o] ++ A ++ B) (fun x hx => List.mem_append_left _ hx) e.1, h, lab_sub (fun x hx => List.mem_append_left _ hx)]
  have hE : Ends n (o :: (A ++ B)) := he.sub (fun x hx => by
    rcases List.mem_cons.mp hx with rfl | hx
    · simp
    · rcases List.mem_append.mp hx with hx | hx <;> simp [hx])
  intro i h0 h1
  have := w.const (lab (o :: (A ++ B))) (by
    intro x hx
    rcases List.mem_append.mp hx with hx | hx
    · exact lab_run (by simp [hx])
    · rcases List.mem_cons.mp hx with rfl | hx
      · exact hs
      · exact lab_run (by simp [hx])) i h0 h1
  rw [this]; exact lab_zero hE
/-- a tree that stands ahead is the first tree -/
theorem first_front {n : Int} {T rest : List E} (hn : 0 < n) (he : Ends n (T ++ rest)) (hl : (T.length : Int) = n - 1) (w : Whole n T) : first (T ++ rest) = (List.range T.length).map (fun k : Nat => (k : Int)) := by
  have h1 : ∀ k, k < T.length → links (T ++ rest) k = true := by
    intro k hk
    unfold links
    rw [ed_left hk]
    have e1 : (T ++ rest).take k = T.take k := by rw [List.take_append_of_le_length (by omega)]
    rw [e1]
    simp only [bne_iff_ne, ne_eq]
    intro hs
    have hT := he.left
    have e2 := take_succ_ed hk
    have hE : Ends n (T.take k ++ [ed T k]) := by rw [← e2]; exact hT.sub (fun e h => List.mem_of_mem_take h)
    have c := comps_snoc hE
    rw [if_pos hs] at c
    have d := comps_append (a := []) (b := T.take k) hE.left
    rw [comps_nil, List.nil_append, List.length_take] at d
    have f := comps_append (a := T.take k ++ [ed T k]) (b := T.drop (k + 1)) (n := n) (by rw [← e2, List.take_append_drop]; exact hT)
    rw [← e2, List.take_append_drop, (whole_iff hT hn).mp w, List.length_drop] at f
    rw [← e2] at c
    omega
  have h2 : ∀ k, T.length ≤ k → k < (T ++ rest).length → links (T ++ rest) k = false := by
    intro k hk hl2
    unfold links
    have e1 : (T ++ rest).take k = T ++ rest.take (k - T.length) := by
      rw [List.take_append, List.take_of_length_le hk]
    have hW : Whole n ((T ++ rest).take k) := by
      refine Whole.mono (he.sub (fun e h => List.mem_of_mem_take h)) (fun e h => ?_) w
      rw [e1]; exact List.mem_append_left _ h
    have hx := he _ (ed_mem hl2)
    rw [hW _ hx.1 hx.2.1, hW _ hx.2.2.1 hx.2.2.2.1]
    simp
  unfold first firstN
  have e : (List.range (T ++ rest).length).filter (links (T ++ rest)) = List.range T.length := by
    rw [List.length_append, List.range_add, List.filter_append]
    have a : (List.range T.length).filter (links (T ++ rest)) = List.range T.length := by
      rw [List.filter_eq_self]; intro k hk; rw [List.mem_range] at hk; exact h1 k hk
    have b : ((List.range rest.length).map (T.length + ·)).filter (links (T ++ rest)) = [] := by
      rw [List.filter_eq_nil_iff]
      intro k hk
      obtain ⟨j, hj, rfl⟩ := List.mem_map.mp hk
      rw [List.mem_range] at hj
      rw [h2 _ (by omega) (by rw [List.length_append]; omega)]
      simp
    rw [a, b, List.append_nil]
  rw [e]
/-- x put at its place in an ascending list -/
def insA (x : Int) : List Int → List Int
  | [] => [x]
  | y :: t => if y > x then x :: y :: t else y :: insA x t
theorem mem_insA {x z : Int} : ∀ {t : List Int}, z ∈ insA x t ↔ z = x ∨ z ∈ t
  | [] => by simp [insA]
  | y :: t => by
    unfold insA
    split
    · simp
    · rw [List.mem_cons, mem_insA, List.mem_cons]
      constructor
      · rintro (h | h | h)
        · exact Or.inr (Or.inl h)
        · exact Or.inl h
        · exact Or.inr (Or.inr h)
      · rintro (h | h | h)
        · exact Or.inr (Or.inl h)
        · exact Or.inl h
        · exact Or.inr (Or.inr h)
theorem insA_length (x : Int) : ∀ (t : List Int), (insA x t).length = t.length + 1
  | [] => rfl
  | y :: t => by
    unfold insA
    split
    · simp
    · simp [insA_length x t]
theorem asc_insA {x N : Int} : ∀ {t : List Int} {last : Int}, asc last N t = true → last < x → x < N → x ∉ t → asc last N (insA x t) = true
  | [], last, _, h1, h2, _ => by simp [insA, asc, h1, h2]
  | y :: t, last, h, h1, h2, hx => by
    simp only [asc, Bool.and_eq_true, decide_eq_true_eq] at h
    unfold insA
    split
    · simp only [asc, Bool.and_eq_true, decide_eq_true_eq]
      exact ⟨⟨h1, h2⟩, ⟨by omega, h.1.2⟩, h.2⟩
    · rename_i c
      simp only [asc, Bool.and_eq_true, decide_eq_true_eq]
      have hxy : x ≠ y := fun e => hx (by rw [e]; simp)
      exact ⟨h.1, asc_insA h.2 (by omega) h2 (fun hm => hx (List.mem_cons_of_mem _ hm))⟩
theorem asc_drop {N : Int} {A B : List Int} {y last : Int} (h : asc last N (A ++ y :: B) = true) : asc last N (A ++ B) = true := by
  induction A generalizing last with
  | nil =>
    simp only [List.nil_append, asc, Bool.and_eq_true, decide_eq_true_eq] at h
    cases B with
    | nil => rfl
    | cons z B =>
      simp only [List.nil_append, asc, Bool.and_eq_true, decide_eq_true_eq] at h ⊢
      exact ⟨⟨by omega, h.2.1.2⟩, h.2.2⟩
  | cons a A ih =>
    simp only [List.cons_append, asc, Bool.and_eq_true, decide_eq_true_eq] at h ⊢
    exact ⟨h.1, ih h.2⟩
end Go.Proofs.Ytbnndmkkmceenaa.Gr
/- Loops: they begin anywhere, have two directions, and each run beside the first tree has one. Plain Lean. -/
namespace Go.Proofs.Ytbnndmkkmceenaa.Gr
set_option linter.unusedVariables false
set_option linter.unusedSimpArgs false
theorem asc_nodup {N : Int} : ∀ {t : List Int} {last : Int}, asc last N t = true → t.Nodup
  | [], _, _ => List.nodup_nil
  | k :: t, last, h => by
    simp only [asc, Bool.and_eq_true, decide_eq_true_eq] at h
    rw [List.nodup_cons]
    exact ⟨fun hm => by have := asc_mem h.2 k hm; omega, asc_nodup h.2⟩
theorem tree_of {n : Int} {es : List E} {t : List Int} (he : Ends n es) (hn : 0 < n) (hl : (t.length : Int) = n - 1) (ha : asc (-1) es.length t = true) (w : Whole n (pk es t)) : Tree n es t := by
  have hE : Ends n (pk es t) := he.sub (pk_mem (by omega) ha)
  refine ⟨⟨hE, ?_⟩, asc_nodup ha, fun k hk => ?_⟩
  · rw [(whole_iff hE hn).mp w]; omega
  · have := asc_mem ha k hk; omega
theorem first_tree {n : Int} {es : List E} (he : Ends n es) (hn : 0 < n) (w : Whole n es) : Tree n es (first es) :=
  tree_of he hn (first_length he hn w) (first_asc es) (first_whole he w)
/-! ways among all runs -/
def inR (N z : Int) : Bool := decide (z ≠ 0) && decide (-N ≤ z) && decide (z ≤ N)
theorem inR_iff {N z : Int} : inR N z = true ↔ z ≠ 0 ∧ 0 ≤ ix z ∧ ix z < N := by
  unfold inR ix
  simp only [Bool.and_eq_true, decide_eq_true_eq]
  split <;> omega
/-- a way from u on, among all runs -/
def chn (es : List E) : Int → List Int → Bool
  | _, [] => true
  | u, z :: w => inR es.length z && decide (fr es z = u) && chn es (too es z) w
def fin (es : List E) : Int → List Int → Int
  | u, [] => u
  | _, z :: w => fin es (too es z) w
theorem chn_append {es : List E} : ∀ {a b : List Int} {u : Int}, chn es u (a ++ b) = (chn es u a && chn es (fin es u a) b)
  | [], b, u => by simp [chn, fin]
  | z :: a, b, u => by simp only [List.cons_append, chn, fin, chn_append (a := a), Bool.and_assoc]
theorem fin_append {es : List E} : ∀ {a b : List Int} {u : Int}, fin es u (a ++ b) = fin es (fin es u a) b
  | [], _, _ => rfl
  | z :: a, b, u => by simp only [List.cons_append, fin, fin_append (a := a)]
theorem fin_cons {es : List E} {w : List Int} (h : w ≠ []) (u v : Int) : fin es u w = fin es v w := by
  cases w with
  | nil => exact absurd rfl h
  | cons z w => rfl
theorem Wk.chn {es : List E} {t : List Int} (ht : ∀ k ∈ t, 0 ≤ k ∧ k < es.length) : ∀ {w : List Int} {u v : Int}, Wk es t u w v → Gr.chn es u w = true ∧ fin es u w = v
  | [], u, v, h => ⟨rfl, h⟩
  | z :: w, u, v, h => by
    have i := Wk.chn ht h.2.2
    refine ⟨?_, i.2⟩
    unfold Gr.chn
    have := ht _ h.1.1
    simp only [Bool.and_eq_true, decide_eq_true_eq]
    exact ⟨⟨inR_iff.mpr ⟨h.1.2, this.1, this.2⟩, h.2.1⟩, i.1⟩
/-- a loop: a way that comes back -/
def loopB (es : List E) (w : List Int) : Bool := (w != []) && chn es (fin es 0 w) w
theorem loop_iff {es : List E} {w : List Int} : loopB es w = true ↔ w ≠ [] ∧ ∃ u, chn es u w = true ∧ fin es u w = u := by
  unfold loopB
  rw [Bool.and_eq_true]
  constructor
  · rintro ⟨h1, h2⟩
    have h1' : w ≠ [] := by simpa using h1
    exact ⟨h1', fin es 0 w, h2, (fin_cons h1' _ _)⟩
  · rintro ⟨h1, u, h2, h3⟩
    refine ⟨by simpa using h1, ?_⟩
    rw [fin_cons h1 0 u, h3]; exact h2
theorem loop_turn {es : List E} {a b : List Int} (h : loopB es (a ++ b) = true) : loopB es (b ++ a) = true := by
  obtain ⟨h1, u, h2, h3⟩ := loop_iff.mp h
  rw [loop_iff]
  refine ⟨fun e => h1 ?_, fin es u a, ?_, ?_⟩
  · have := congrArg List.length e
    rw [List.length_append] at this
    simp only [List.length_nil] at this
    have ha : a = [] := List.length_eq_zero_iff.mp (by omega)
    have hb : b = [] := List.length_eq_zero_iff.mp (by omega)
    rw [ha, hb]; rfl
  · rw [chn_append, Bool.and_eq_true] at h2 ⊢
    rw [fin_append] at h3
    refine ⟨h2.2, ?_⟩
    rw [h3]; exact h2.1
  · rw [fin_append] at h3 ⊢
    rw [h3]
theorem fr_neg {es : List E} {z : Int} (h : z ≠ 0) : fr es (-z) = too es z ∧ too es (-z) = fr es z ∧ ix (-z) = ix z := by
  have e : ix (-z) = ix z := by unfold ix; split <;> split <;> omega
  unfold fr too
  rw [e]
  by_cases p : z > 0
  · rw [if_pos p, if_pos p, if_neg (by omega), if_neg (by omega)]; exact ⟨rfl, rfl, rfl⟩
  · rw [if_neg p, if_neg p, if_pos (by omega), if_pos (by omega)]; exact ⟨rfl, rfl, rfl⟩
def back (w : List Int) : List Int := (w.map (- ·)).reverse
theorem back_back (w : List Int) : back (back w) = w := by
  unfold back
  rw [List.map_reverse, List.reverse_reverse, List.map_map]
  conv => rhs; rw [← List.map_id w]
  apply List.map_congr_left
  intro x _
  simp
theorem back_length (w : List Int) : (back w).length = w.length := by unfold back; simp
theorem chn_back {es : List E} : ∀ {w : List Int} {u : Int}, chn es u w = true → chn es (fin es u w) (back w) = true ∧ fin es (fin es u w) (back w) = u
  | [], u, _ => ⟨rfl, rfl⟩
  | z :: w, u, h => by
    unfold chn at h
    simp only [Bool.and_eq_true, decide_eq_true_eq] at h
    obtain ⟨⟨h1, h2⟩, h3⟩ := h
    have i := chn_back h3
    have e : back (z :: w) = back w ++ [-z] := by unfold back; simp
    have z0 := (inR_iff.mp h1)
    have f := fr_neg (es := es) z0.1
    rw [e]
    simp only [fin]
    rw [chn_append, fin_append, i.2]
    refine ⟨?_, ?_⟩
    · rw [Bool.and_eq_true]
      refine ⟨i.1, ?_⟩
      simp only [chn, Bool.and_true, Bool.and_eq_true, decide_eq_true_eq]
      exact ⟨inR_iff.mpr ⟨by omega, by rw [f.2.2]; exact z0.2⟩, f.1⟩
    · simp only [fin]
      rw [f.2.1, h2]
theorem loop_back {es : List E} {w : List Int} (h : loopB es w = true) : loopB es (back w) = true := by
  obtain ⟨h1, u, h2, h3⟩ := loop_iff.mp h
  rw [loop_iff]
  have b := chn_back h2
  rw [h3] at b
  refine ⟨fun e => h1 ?_, u, b.1, b.2⟩
  have := congrArg List.length e
  rw [back_length] at this
  exact List.length_eq_zero_iff.mp this
theorem loop_both {es : List E} {a b : List Int} (h : loopB es a = true) (hb : b = back a) : loopB es (a ++ b) = true := by
  obtain ⟨h1, u, ha, hf⟩ := loop_iff.mp h
  have c := chn_back ha
  rw [hf] at c
  rw [loop_iff, hb]
  refine ⟨fun e => h1 (List.append_eq_nil_iff.mp e).1, u, ?_, ?_⟩
  · rw [chn_append, hf, ha, c.1]; rfl
  · rw [fin_append, hf, c.2]
/-! the sum of the rises -/
def err (rs : List R) (w : List Int) : Int := (w.map (rise rs)).sum
theorem sum_append (a b : List Int) : (a ++ b).sum = a.sum + b.sum := by
  induction a with
  | nil => simp
  | cons x a ih => rw [List.cons_append, List.sum_cons, List.sum_cons, ih]; omega
theorem err_append (rs : List R) (a b : List Int) : err rs (a ++ b) = err rs a + err rs b := by unfold err; rw [List.map_append, sum_append]
theorem err_turn (rs : List R) (a b : List Int) : err rs (a ++ b) = err rs (b ++ a) := by rw [err_append, err_append]; omega
theorem rise_neg {rs : List R} {z : Int} (h : z ≠ 0) : rise rs (-z) = - rise rs z := by
  unfold rise
  rw [(fr_neg (es := []) h).2.2]
  by_cases p : z > 0
  · rw [if_pos p, if_neg (by omega)]
  · rw [if_neg p, if_pos (by omega)]; omega
theorem err_back {rs : List R} : ∀ {w : List Int}, (∀ z ∈ w, z ≠ 0) → err rs (back w) = - err rs w
  | [], _ => rfl
  | z :: w, h => by
    have e : back (z :: w) = back w ++ [-z] := by unfold back; simp
    rw [e, err_append, err_back (fun x hx => h x (List.mem_cons_of_mem _ hx))]
    unfold err
    simp only [List.map_cons, List.map_nil, List.sum_cons, List.sum_nil]
    rw [rise_neg (h z (by simp))]; omega
theorem chn_nz {es : List E} : ∀ {w : List Int} {u : Int}, chn es u w = true → ∀ z ∈ w, inR es.length z = true
  | [], _, _, z, hz => by cases hz
  | y :: w, u, h, z, hz => by
    unfold chn at h
    simp only [Bool.and_eq_true] at h
    rcases List.mem_cons.mp hz with rfl | hz
    · exact h.1.1
    · exact chn_nz h.2 z hz
/-- over heights that fit, the rises of a way add up to the difference -/
theorem chn_rise {rs : List R} {P : Int → Int} (hP : Pot rs P) : ∀ {w : List Int} {u : Int}, chn (eds rs) u w = true → err rs w = P (fin (eds rs) u w) - P u
  | [], u, _ => by simp [err, fin]
  | z :: w, u, h => by
    unfold chn at h
    simp only [Bool.and_eq_true, decide_eq_true_eq] at h
    have i := chn_rise hP h.2
    have hz := inR_iff.mp h.1.1
    rw [eds_length] at hz
    have hm : rs.getD (ix z).toNat (0, 0, 0) ∈ rs := by
      rw [List.getD_eq_getElem?_getD, List.getElem?_eq_getElem (by omega), Option.getD_some]
      exact List.getElem_mem _
    have e := rise_pot (hP _ hm)
    unfold err at i ⊢
    rw [List.map_cons, List.sum_cons, i, e, h.1.2]
    simp only [fin]; omega
theorem err_bound {rs : List R} {M : Int} (hM : 0 ≤ M) (hb : ∀ r ∈ rs, -M ≤ r.2.2 ∧ r.2.2 ≤ M) : ∀ (w : List Int), -(w.length * M) ≤ err rs w ∧ err rs w ≤ w.length * M
  | [] => by simp [err]
  | z :: w => by
    have i := err_bound hM hb w
    have e : err rs (z :: w) = rise rs z + err rs w := by unfold err; simp
    have r : -M ≤ rise rs z ∧ rise rs z ≤ M := by
      unfold rise
      have : ∀ k : Nat, -M ≤ (rs.getD k (0, 0, 0)).2.2 ∧ (rs.getD k (0, 0, 0)).2.2 ≤ M := by
        intro k
        rw [List.getD_eq_getElem?_getD]
        cases h : rs[k]? with
        | none => simp; omega
        | some r => exact hb r (List.mem_of_getElem? h)
      have := this (ix z).toNat
      split <;> omega
    rw [e, List.length_cons, show ((w.length + 1 : Nat) : Int) = (w.length : Int) + 1 by omega, Int.add_mul]
    omega
/-! the loop of a run beside the first tree -/
theorem way_exists {n : Int} {es : List E} {t : List Int} (hT : Tree n es t) (w : Whole n (pk es t)) {u v : Int} (hu : 0 ≤ u ∧ u < n) (hv : 0 ≤ v ∧ v < n) : ∃ p, Wk es t u p v ∧ Red p := by
  have h0 : ∀ i, 0 ≤ i → kt ((List.replicate n.toNat false).set u.toNat true) i = decide (i = u) := by
    intro i i0
    rw [kt_set hu.1 (by simp; omega) i0]
    by_cases c : i = u
    · simp [c]
    · rw [if_neg c]
      unfold kt
      rw [List.getD_eq_getElem?_getD, List.getElem?_replicate]
      simp only [c, decide_false]
      split <;> rfl
  obtain ⟨p, _, h1, h2⟩ := twh_way hT w hu hv (S := (List.replicate n.toNat false).set u.toNat true) (by simp) h0 (d := n.toNat + 2) (by omega)
  exact ⟨p, h1, h2⟩
theorem loop_of {n : Int} {es : List E} {t w : List Int} {k : Nat} (hT : Tree n es t) (hk : k < es.length) (hkt : (k : Int) ∉ t) (hw : Wk es t (ed es k).2 w (ed es k).1) (hr : Red w) :
    loopB es (((k : Int) + 1) :: w) = true ∧ (((k : Int) + 1) :: w).length ≤ es.length ∧ (∀ z ∈ w, ix z ∈ t) ∧ ((((k : Int) + 1) :: w).map ix).Nodup := by
  have ez : ix ((k : Int) + 1) = k := by unfold ix; rw [if_pos (by omega)]; omega
  have ef : fr es ((k : Int) + 1) = (ed es k).1 := by unfold fr; rw [if_pos (by omega), ez, Int.toNat_natCast]
  have et : too es ((k : Int) + 1) = (ed es k).2 := by unfold too; rw [if_pos (by omega), ez, Int.toNat_natCast]
  have hc := hw.chn hT.range
  have hin : ∀ z ∈ w, ix z ∈ t := fun z hz => (hw.nodes z hz).1
  have hnd : ((((k : Int) + 1) :: w).map ix).Nodup := by
    rw [List.map_cons, List.nodup_cons, ez]
    refine ⟨fun hm => ?_, way_nodup t hT.forest (fun k hk => (hT.range k hk).1) hT.nodup hw hr⟩
    obtain ⟨z, hz, e⟩ := List.mem_map.mp hm
    exact hkt (e ▸ hin z hz)
  refine ⟨?_, ?_, hin, hnd⟩
  · rw [loop_iff]
    refine ⟨by simp, (ed es k).1, ?_, ?_⟩
    · unfold chn
      rw [et, hc.1, ef]
      simp only [decide_true, Bool.and_true]
      exact inR_iff.mpr ⟨by omega, by rw [ez]; omega, by rw [ez]; omega⟩
    · simp only [fin]
      rw [et]; exact hc.2
  · have := nodup_bound es.length _ hnd (fun x hx => by
      obtain ⟨z, hz, rfl⟩ := List.mem_map.mp hx
      rcases List.mem_cons.mp hz with rfl | hz
      · rw [ez]; omega
      · exact hT.range _ (hin z hz))
    rwa [List.length_map] at this
end Go.Proofs.Ytbnndmkkmceenaa.Gr
/- Errors of loops do not hang on heights that are added. Plain Lean. -/
namespace Go.Proofs.Ytbnndmkkmceenaa.Gr
set_option linter.unusedVariables false
set_option linter.unusedSimpArgs false
/-- runs whose rises are shifted by heights -/
def shiftR (h : Int → Int) (rs : List R) : List R := rs.map (fun r => (r.1, r.2.1, r.2.2 + h r.2.1 - h r.1))
theorem eds_shift (h : Int → Int) (rs : List R) : eds (shiftR h rs) = eds rs := by unfold eds shiftR; rw [List.map_map]; rfl
theorem getD_shift (h : Int → Int) (rs : List R) {k : Nat} (hk : k < rs.length) : (shiftR h rs).getD k (0, 0, 0) = ((rs.getD k (0, 0, 0)).1, (rs.getD k (0, 0, 0)).2.1, (rs.getD k (0, 0, 0)).2.2 + h (rs.getD k (0, 0, 0)).2.1 - h (rs.getD k (0, 0, 0)).1) := by
  unfold shiftR
  rw [List.getD_eq_getElem?_getD, List.getD_eq_getElem?_getD, List.getElem?_map, List.getElem?_eq_getElem hk]; rfl
theorem rise_shift {h : Int → Int} {rs : List R} {z : Int} (hz : inR rs.length z = true) : rise (shiftR h rs) z = rise rs z + h (too (eds rs) z) - h (fr (eds rs) z) := by
  have hi := inR_iff.mp hz
  unfold rise too fr
  rw [getD_shift h rs (by omega), ed_eds]
  split <;> simp only <;> omega
theorem err_shift {h : Int → Int} {rs : List R} : ∀ {w : List Int} {u : Int}, chn (eds rs) u w = true → err (shiftR h rs) w = err rs w + h (fin (eds rs) u w) - h u
  | [], u, _ => by simp [err, fin]
  | z :: w, u, hc => by
    unfold chn at hc
    simp only [Bool.and_eq_true, decide_eq_true_eq] at hc
    have i := err_shift (h := h) hc.2
    have hz := hc.1.1
    rw [eds_length] at hz
    have e := rise_shift (h := h) hz
    unfold err at i ⊢
    rw [List.map_cons, List.sum_cons, List.map_cons, List.sum_cons, i, e, hc.1.2]
    simp only [fin]; omega
theorem loop_shift {h : Int → Int} {rs : List R} {w : List Int} (hl : loopB (eds rs) w = true) : err (shiftR h rs) w = err rs w := by
  obtain ⟨_, u, h2, h3⟩ := loop_iff.mp hl
  rw [err_shift h2, h3]; omega
theorem loop_fit {rs : List R} {P : Int → Int} {w : List Int} (hP : Pot rs P) (hl : loopB (eds rs) w = true) : err rs w = 0 := by
  obtain ⟨_, u, h2, h3⟩ := loop_iff.mp hl
  rw [chn_rise hP h2, h3]; omega
end Go.Proofs.Ytbnndmkkmceenaa.Gr
