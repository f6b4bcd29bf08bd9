import Derived.Test.YtbnndmkkmceenaaGb
/- All lists of so many indexes, in order, and the trees among them. Plain Lean. -/
namespace Go.Proofs.Ytbnndmkkmceenaa.Gr
set_option linter.unusedVariables false
set_option linter.unusedSimpArgs false
def sub : Nat → List Int → List (List Int)
  | 0, _ => [[]]
  | _ + 1, [] => []
  | s + 1, k :: ks => (sub s ks).map (k :: ·) ++ sub (s + 1) ks
theorem sub_length_mem : ∀ {s : Nat} {l t : List Int}, t ∈ sub s l → t.length = s
  | 0, l, t, h => by
    have : t = [] := by cases l <;> simpa [sub] using h
    subst this; rfl
  | s + 1, [], t, h => by simp [sub] at h
  | s + 1, k :: ks, t, h => by
    unfold sub at h
    rcases List.mem_append.mp h with h | h
    · obtain ⟨u, hu, rfl⟩ := List.mem_map.mp h
      simp [sub_length_mem hu]
    · exact sub_length_mem h
theorem sub_mem_mem : ∀ {s : Nat} {l t : List Int}, t ∈ sub s l → ∀ x ∈ t, x ∈ l
  | 0, l, t, h, x, hx => by
    have : t = [] := by cases l <;> simpa [sub] using h
    subst this; cases hx
  | s + 1, [], t, h, x, hx => by simp [sub] at h
  | s + 1, k :: ks, t, h, x, hx => by
    unfold sub at h
    rcases List.mem_append.mp h with h | h
    · obtain ⟨u, hu, rfl⟩ := List.mem_map.mp h
      rcases List.mem_cons.mp hx with rfl | hx
      · simp
      · exact List.mem_cons_of_mem _ (sub_mem_mem hu x hx)
    · exact List.mem_cons_of_mem _ (sub_mem_mem h x hx)
theorem sub_count : ∀ (s : Nat) (l : List Int), (sub s l).length ≤ 2 ^ l.length
  | 0, l => by
    have := Nat.one_le_two_pow (n := l.length)
    cases l <;> simp [sub] <;> exact this
  | s + 1, [] => by simp [sub]
  | s + 1, k :: ks => by
    unfold sub
    rw [List.length_append, List.length_map, List.length_cons, Nat.pow_succ]
    have := sub_count s ks
    have := sub_count (s + 1) ks
    omega
/-- the numbers from i on, below i + d -/
def upto (i : Int) : Nat → List Int
  | 0 => []
  | d + 1 => i :: upto (i + 1) d
theorem upto_length : ∀ (d : Nat) (i : Int), (upto i d).length = d
  | 0, _ => rfl
  | d + 1, i => by simp [upto, upto_length d]
theorem mem_upto : ∀ {d : Nat} {i x : Int}, x ∈ upto i d ↔ i ≤ x ∧ x < i + d
  | 0, i, x => by
    simp only [upto, List.not_mem_nil, false_iff]
    omega
  | d + 1, i, x => by
    unfold upto
    rw [List.mem_cons, mem_upto]; omega
theorem upto_snoc : ∀ (d : Nat) (i : Int), upto i (d + 1) = upto i d ++ [i + d]
  | 0, i => by simp [upto]
  | d + 1, i => by
    rw [upto, upto_snoc d]
    simp only [upto, List.cons_append]
    rw [show i + 1 + (d : Int) = i + ((d + 1 : Nat) : Int) by omega]
theorem sub_asc : ∀ {s d : Nat} {i last N : Int} {t : List Int}, t ∈ sub s (upto i d) → last < i → i + d ≤ N → asc last N t = true
  | 0, d, i, last, N, t, h, _, _ => by
    have : t = [] := by cases hu : upto i d <;> rw [hu] at h <;> simpa [sub] using h
    subst this; rfl
  | s + 1, 0, i, last, N, t, h, _, _ => by simp [sub, upto] at h
  | s + 1, d + 1, i, last, N, t, h, h1, h2 => by
    unfold upto sub at h
    rcases List.mem_append.mp h with h | h
    · obtain ⟨u, hu, rfl⟩ := List.mem_map.mp h
      simp only [asc, Bool.and_eq_true, decide_eq_true_eq]
      exact ⟨⟨h1, by omega⟩, sub_asc hu (by omega) (by omega)⟩
    · exact sub_asc h (by omega) (by omega)
theorem asc_sub : ∀ {d : Nat} {i last : Int} {t : List Int}, asc last (i + d) t = true → i ≤ last + 1 → (∀ x ∈ t, i ≤ x) → t ∈ sub t.length (upto i d)
  | d, i, last, [], _, _, _ => by
    cases hu : upto i d <;> simp [sub]
  | 0, i, last, k :: t, h, h1, hx => by
    simp only [asc, Bool.and_eq_true, decide_eq_true_eq] at h
    have := hx k (by simp)
    omega
  | d + 1, i, last, k :: t, h, h1, hx => by
    unfold upto
    rw [List.length_cons]
    unfold sub
    rw [List.mem_append]
    simp only [asc, Bool.and_eq_true, decide_eq_true_eq] at h
    have hk := hx k (by simp)
    by_cases e : k = i
    · left
      subst e
      refine List.mem_map.mpr ⟨t, ?_, rfl⟩
      refine asc_sub (last := k) ?_ (by omega) (fun x hm => by have := asc_mem h.2 x hm; omega)
      rw [show k + 1 + (d : Int) = k + ((d + 1 : Nat) : Int) by omega]
      exact h.2
    · right
      have := asc_sub (d := d) (i := i + 1) (last := i) (t := k :: t) (by
        simp only [asc, Bool.and_eq_true, decide_eq_true_eq]
        rw [show i + 1 + (d : Int) = i + ((d + 1 : Nat) : Int) by omega]
        exact ⟨⟨by omega, h.1.2⟩, h.2⟩) (by omega) (fun x hm => by
          rcases List.mem_cons.mp hm with rfl | hm
          · omega
          · have := asc_mem h.2 x hm; omega)
      exact this
theorem sub_countP (p : List Int → Bool) : ∀ (s : Nat) (l : List Int) (x : Int), (sub s l).countP p ≤ (sub s (l ++ [x])).countP p
  | 0, l, x => by cases l <;> simp [sub]
  | s + 1, [], x => by simp [sub]
  | s + 1, k :: ks, x => by
    simp only [List.cons_append, sub, List.countP_append, List.countP_map]
    have := sub_countP (p ∘ (k :: ·)) s ks x
    have := sub_countP p (s + 1) ks x
    omega
theorem sub_short : ∀ {s : Nat} {l : List Int}, l.length < s → sub s l = []
  | 0, l, h => by omega
  | s + 1, [], _ => rfl
  | s + 1, k :: ks, h => by
    rw [List.length_cons] at h
    unfold sub
    rw [sub_short (by omega), sub_short (by omega)]; rfl
theorem sub_full : ∀ (l : List Int), sub l.length l = [l]
  | [] => rfl
  | k :: ks => by
    rw [List.length_cons]
    unfold sub
    rw [sub_full ks, sub_short (by omega)]; rfl
/-- whether runs link all nodes, as a test -/
def wholeB (n : Int) (es : List E) : Bool := (List.range n.toNat).all (fun i : Nat => lab es i == 0)
theorem wholeB_iff {n : Int} {es : List E} : wholeB n es = true ↔ Whole n es := by
  unfold wholeB Whole
  rw [List.all_eq_true]
  constructor
  · intro h i h0 h1
    have := h i.toNat (by rw [List.mem_range]; omega)
    rw [beq_iff_eq, show ((i.toNat : Nat) : Int) = i by omega] at this
    exact this
  · intro h i hi
    rw [List.mem_range] at hi
    rw [beq_iff_eq]; exact h i (by omega) (by omega)
/-- the trees of a net, in order -/
def trees (n : Int) (es : List E) : List (List Int) := (sub (n - 1).toNat (upto 0 es.length)).filter (fun t => wholeB n (pk es t))
theorem trees_spec {n : Int} {es : List E} {t : List Int} (h : t ∈ trees n es) : t.length = (n - 1).toNat ∧ asc (-1) es.length t = true ∧ Whole n (pk es t) := by
  obtain ⟨h1, h2⟩ := List.mem_filter.mp h
  exact ⟨sub_length_mem h1, sub_asc h1 (by omega) (by omega), wholeB_iff.mp h2⟩
theorem mem_trees {n : Int} {es : List E} {t : List Int} (h1 : t.length = (n - 1).toNat) (h2 : asc (-1) es.length t = true) (h3 : Whole n (pk es t)) : t ∈ trees n es := by
  refine List.mem_filter.mpr ⟨?_, wholeB_iff.mpr h3⟩
  rw [← h1]
  exact asc_sub (last := -1) (by rw [Int.zero_add]; exact h2) (by omega) (fun x hx => by have := asc_mem h2 x hx; omega)
theorem trees_whole {n : Int} {es : List E} (he : Ends n es) (hn : 0 < n) : 0 < (trees n es).length ↔ Whole n es := by
  constructor
  · intro h
    obtain ⟨t, ht⟩ := List.exists_mem_of_length_pos h
    obtain ⟨_, h2, h3⟩ := trees_spec ht
    exact Whole.mono he (pk_mem (by omega) h2) h3
  · intro w
    have := mem_trees (n := n) (es := es) (t := first es) (by have := first_length he hn w; omega) (first_asc es) (first_whole he w)
    exact List.length_pos_of_mem this
theorem trees_one {n : Int} {es : List E} (hn : 0 < n) (h : (es.length : Int) = n - 1) : (trees n es).length ≤ 1 := by
  unfold trees
  have e : (n - 1).toNat = (upto 0 es.length).length := by rw [upto_length]; omega
  rw [e, sub_full]
  exact Nat.le_trans (List.length_filter_le _ _) (by simp)
theorem trees_less {n : Int} {es : List E} {e : E} : (trees n es).length ≤ (trees n (es ++ [e])).length := by
  unfold trees
  rw [← List.countP_eq_length_filter, ← List.countP_eq_length_filter, List.length_append]
  simp only [List.length_cons, List.length_nil]
  rw [upto_snoc]
  refine Nat.le_trans ?_ (sub_countP _ _ _ _)
  apply Nat.le_of_eq
  apply List.countP_congr
  intro t ht
  have hm := sub_mem_mem ht
  have : pk (es ++ [e]) t = pk es t := by
    unfold pk
    apply List.map_congr_left
    intro k hk
    have := mem_upto.mp (hm k hk)
    exact ed_left (by omega)
  rw [this]
theorem trees_count (n : Int) (es : List E) : (trees n es).length ≤ 2 ^ es.length := by
  unfold trees
  refine Nat.le_trans (List.length_filter_le _ _) ?_
  have := sub_count (n - 1).toNat (upto 0 es.length)
  rwa [upto_length] at this
/-! sums of products of weights -/
def prod (W : Int → Int) (t : List Int) : Int := (t.map W).foldl (· * ·) 1
theorem foldl_mul (l : List Int) (a : Int) : l.foldl (· * ·) a = a * l.foldl (· * ·) 1 := by
  induction l generalizing a with
  | nil => simp
  | cons x l ih => rw [List.foldl_cons, List.foldl_cons, ih, ih (1 * x), Int.one_mul, Int.mul_assoc]
theorem prod_cons (W : Int → Int) (k : Int) (t : List Int) : prod W (k :: t) = W k * prod W t := by
  unfold prod
  rw [List.map_cons, List.foldl_cons, foldl_mul, Int.one_mul]
theorem prod_one {W : Int → Int} : ∀ {t : List Int}, (∀ k ∈ t, W k = 1) → prod W t = 1
  | [], _ => rfl
  | k :: t, h => by rw [prod_cons, h k (by simp), prod_one (fun x hx => h x (List.mem_cons_of_mem _ hx))]; rfl
theorem prod_two {W V : Int → Int} : ∀ {t : List Int}, (∀ k ∈ t, V k = 2 * W k) → prod V t = 2 ^ t.length * prod W t
  | [], _ => rfl
  | k :: t, h => by
    rw [prod_cons, prod_cons, h k (by simp), prod_two (fun x hx => h x (List.mem_cons_of_mem _ hx)), List.length_cons, Int.pow_succ]
    grind
theorem prod_bound {W : Int → Int} {B : Int} (hB : 1 ≤ B) : ∀ {t : List Int}, (∀ k ∈ t, 1 ≤ W k ∧ W k ≤ B) → 1 ≤ prod W t ∧ prod W t ≤ B ^ t.length
  | [], _ => by simp [prod]
  | k :: t, h => by
    have x := h k (by simp)
    have y := prod_bound hB (t := t) (fun z hz => h z (List.mem_cons_of_mem _ hz))
    rw [prod_cons, List.length_cons, Int.pow_succ]
    constructor
    · have := Int.mul_le_mul x.1 y.1 (by omega) (by omega)
      omega
    · have := Int.mul_le_mul x.2 y.2 (by omega) (by omega)
      rw [Int.mul_comm (B ^ t.length)]; exact this
def wsum (W : Int → Int) (l : List (List Int)) : Int := (l.map (prod W)).sum
theorem wsum_cons (W : Int → Int) (t : List Int) (l : List (List Int)) : wsum W (t :: l) = prod W t + wsum W l := by unfold wsum; simp
theorem wsum_one {W : Int → Int} : ∀ {l : List (List Int)}, (∀ t ∈ l, ∀ k ∈ t, W k = 1) → wsum W l = l.length
  | [], _ => rfl
  | t :: l, h => by
    rw [wsum_cons, prod_one (h t (by simp)), wsum_one (fun x hx => h x (List.mem_cons_of_mem _ hx)), List.length_cons]; omega
theorem wsum_two {W V : Int → Int} {s : Nat} : ∀ {l : List (List Int)}, (∀ t ∈ l, t.length = s ∧ ∀ k ∈ t, V k = 2 * W k) → wsum V l = 2 ^ s * wsum W l
  | [], _ => by simp [wsum]
  | t :: l, h => by
    have x := h t (by simp)
    rw [wsum_cons, wsum_cons, prod_two x.2, x.1, wsum_two (fun x hx => h x (List.mem_cons_of_mem _ hx)), Int.mul_add]
theorem wsum_bound {W : Int → Int} {B : Int} {s : Nat} (hB : 1 ≤ B) : ∀ {l : List (List Int)}, (∀ t ∈ l, t.length = s ∧ ∀ k ∈ t, 1 ≤ W k ∧ W k ≤ B) → (l.length : Int) ≤ wsum W l ∧ wsum W l ≤ l.length * B ^ s
  | [], _ => by simp [wsum]
  | t :: l, h => by
    have x := h t (by simp)
    have y := prod_bound hB x.2
    have z := wsum_bound hB (l := l) (fun x hx => h x (List.mem_cons_of_mem _ hx))
    rw [x.1] at y
    rw [wsum_cons, List.length_cons]
    have e : (((l.length + 1 : Nat) : Int)) * B ^ s = l.length * B ^ s + B ^ s := by
      rw [show ((l.length + 1 : Nat) : Int) = (l.length : Int) + 1 by omega, Int.add_mul, Int.one_mul]
    rw [e]
    omega
end Go.Proofs.Ytbnndmkkmceenaa.Gr
