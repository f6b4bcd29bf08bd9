import Derived.Test.YtbnndmkkmceenaaGc
/- The search along neighbors gives the labels of the net. Plain Lean. -/
namespace Go.Proofs.Ytbnndmkkmceenaa.Gr
set_option linter.unusedVariables false
set_option linter.unusedSimpArgs false
def nb (es : List E) (v : Int) : List Int := es.flatMap (fun e => (if e.1 = v then [e.2] else []) ++ (if e.2 = v then [e.1] else []))
theorem mem_nb {es : List E} {v x : Int} : x ∈ nb es v ↔ ∃ e ∈ es, (e.1 = v ∧ e.2 = x) ∨ (e.2 = v ∧ e.1 = x) := by
  unfold nb
  rw [List.mem_flatMap]
  constructor
  · rintro ⟨e, he, hx⟩
    refine ⟨e, he, ?_⟩
    rcases List.mem_append.mp hx with h | h
    · split at h
      · rename_i c; left; exact ⟨c, (List.mem_singleton.mp h).symm⟩
      · cases h
    · split at h
      · rename_i c; right; exact ⟨c, (List.mem_singleton.mp h).symm⟩
      · cases h
  · rintro ⟨e, he, h⟩
    refine ⟨e, he, List.mem_append.mpr ?_⟩
    rcases h with ⟨rfl, rfl⟩ | ⟨rfl, rfl⟩
    · left; simp
    · right; simp
/-- the neighbors of one node, one after the other -/
def inn (s : Int) : List Int → List Int → List Int → Option (List Int × List Int)
  | [], L, o => some (L, o)
  | x :: xs, L, o => if 0 ≤ x ∧ x < L.length then (if gt L x < 0 then (if o.length < 281474976710656 then inn s xs (L.set x.toNat s) (o ++ [x]) else none) else inn s xs L o) else none
/-- while a node is open -/
def whl (es : List E) (s : Int) : Nat → List Int → List Int → Option (List Int)
  | 0, _, _ => none
  | k + 1, L, o => if (o.length : Int) > 0 then (inn s (nb es (gt o ((o.length : Int) - 1))) L (o.take ((o.length : Int) - 1).toNat)).bind fun p => whl es s k p.1 p.2 else some L
/-- the nodes from s on -/
def sts (es : List E) (n : Int) (k : Nat) : Nat → Int → List Int → Option (List Int)
  | 0, _, _ => none
  | j + 1, s, L => if s < n then (if 0 ≤ s ∧ s < L.length then (if gt L s ≥ 0 then sts es n k j (s + 1) L else (whl es s k (L.set s.toNat s) [s]).bind fun L2 => sts es n k j (s + 1) L2) else none) else some L
def least (k : Nat) (n : Int) (es : List E) : Option (List Int) := if 0 ≤ n then sts es n k k 0 (List.replicate n.toNat (-1)) else none
/-! what holds -/
structure DI (n : Int) (es : List E) (s : Int) (L : List Int) : Prop where
  len : L.length = n.toNat
  val : ∀ i, 0 ≤ i → i < n → gt L i = -1 ∨ (0 ≤ gt L i ∧ gt L i ≤ i ∧ gt L i ≤ s ∧ lab es (gt L i) = lab es i)
  all : ∀ i, 0 ≤ i → i < s → i < n → 0 ≤ gt L i
def Cl (es : List E) (L : List Int) (i : Int) : Prop := ∀ x ∈ nb es i, gt L x = gt L i
structure DO (n : Int) (es : List E) (s : Int) (L o : List Int) (v : Int) : Prop extends DI n es s L where
  at_s : gt L s = s
  opn : ∀ x ∈ o, 0 ≤ x ∧ x < n ∧ gt L x = s
  cl : ∀ i, 0 ≤ i → i < n → 0 ≤ gt L i → i ∉ o → i ≠ v → Cl es L i
def unl (n : Int) (L : List Int) : Nat := (List.range n.toNat).countP (fun i : Nat => decide (gt L i < 0))
theorem nb_lab {es : List E} {v x : Int} (h : x ∈ nb es v) : lab es x = lab es v := by
  obtain ⟨e, he, h⟩ := mem_nb.mp h
  have := lab_run he
  rcases h with ⟨rfl, rfl⟩ | ⟨rfl, rfl⟩
  · exact this.symm
  · exact this
theorem nb_symm {es : List E} {v x : Int} (h : x ∈ nb es v) : v ∈ nb es x := by
  obtain ⟨e, he, h⟩ := mem_nb.mp h
  refine mem_nb.mpr ⟨e, he, ?_⟩
  rcases h with ⟨rfl, rfl⟩ | ⟨rfl, rfl⟩
  · right; exact ⟨rfl, rfl⟩
  · left; exact ⟨rfl, rfl⟩
theorem nb_in {n : Int} {es : List E} (he : Ends n es) {v x : Int} (h : x ∈ nb es v) : 0 ≤ x ∧ x < n := by
  obtain ⟨e, hm, h⟩ := mem_nb.mp h
  have := he e hm
  rcases h with ⟨rfl, rfl⟩ | ⟨rfl, rfl⟩ <;> omega
theorem unl_set {n : Int} {L : List Int} {x s : Int} (hl : L.length = n.toNat) (h0 : 0 ≤ x) (h1 : x < n) (hx : gt L x < 0) (hs : 0 ≤ s) : unl n (L.set x.toNat s) + 1 = unl n L := by
  unfold unl
  refine countP_drop _ _ x.toNat _ (by omega) (by simpa [show ((x.toNat : Nat) : Int) = x by omega] using hx) ?_
  intro i hi
  rw [gt_set h0 (by omega) (by omega)]
  by_cases e : (i : Int) = x
  · rw [if_pos e]
    have h1 : decide (s < 0) = false := by simp; omega
    have h2 : (i != x.toNat) = false := by simp; omega
    rw [h1, h2, Bool.and_false]
  · rw [if_neg e]
    have h2 : (i != x.toNat) = true := by simp; omega
    rw [h2, Bool.and_true]
theorem inn_ok {n : Int} {es : List E} (he : Ends n es) {s v : Int} (hs : 0 ≤ s) (hsn : s < n) : ∀ (xs : List Int) (L o : List Int), (∀ x ∈ xs, x ∈ nb es v) → lab es v = lab es s → (∀ i, 0 ≤ i → i < n → gt L i < 0 → s ≤ i) → DO n es s L o v → gt L v = s → o.length + 2 * unl n L ≤ 281474976710000 →
    ∃ L' o', inn s xs L o = some (L', o') ∧ DO n es s L' o' v ∧ gt L' v = s ∧ o'.length + 2 * unl n L' ≤ o.length + 2 * unl n L ∧ (∀ x, 0 ≤ x → x < n → 0 ≤ gt L x → gt L' x = gt L x) ∧ (∀ x ∈ xs, 0 ≤ gt L' x)
  | [], L, o, _, _, _, h, hv, _ => ⟨L, o, rfl, h, hv, Nat.le_refl _, fun _ _ _ _ => rfl, fun x hx => by cases hx⟩
  | x :: xs, L, o, hx, hlv, hsi, h, hv, hb => by
    have hxn := hx x (by simp)
    have hin := nb_in he hxn
    have hlen := h.len
    unfold inn
    rw [if_pos ⟨hin.1, by omega⟩]
    by_cases hneg : gt L x < 0
    · rw [if_pos hneg]
      have hu := unl_set hlen hin.1 hin.2 hneg hs
      rw [if_pos (by omega)]
      have hg : ∀ i, 0 ≤ i → gt (L.set x.toNat s) i = if i = x then s else gt L i := fun i h0 => gt_set hin.1 (by omega) h0
      have hxv : x ≠ v := by rintro rfl; omega
      have hxs : x ≠ s := by rintro rfl; have := h.at_s; omega
      have hD : DO n es s (L.set x.toNat s) (o ++ [x]) v := by
        refine ⟨⟨by rw [List.length_set]; exact hlen, ?_, ?_⟩, ?_, ?_, ?_⟩
        · intro i h0 h1
          rw [hg i h0]
          split
          · rename_i c
            right
            subst c
            exact ⟨hs, hsi i h0 h1 hneg, Int.le_refl _, by rw [nb_lab hxn, hlv]⟩
          · exact h.val i h0 h1
        · intro i h0 h1 h2
          rw [hg i h0]
          split
          · exact hs
          · exact h.all i h0 h1 h2
        · rw [hg s hs, if_neg (fun z => hxs z.symm)]; exact h.at_s
        · intro y hy
          rcases List.mem_append.mp hy with hy | hy
          · have z := h.opn y hy
            refine ⟨z.1, z.2.1, ?_⟩
            rw [hg y z.1]
            split
            · rfl
            · exact z.2.2
          · obtain rfl : y = x := by simpa using hy
            exact ⟨hin.1, hin.2, by rw [hg y hin.1, if_pos rfl]⟩
        · intro i h0 h1 h2 h3 h4
          have hix : i ≠ x := fun z => h3 (by rw [z]; simp)
          rw [hg i h0, if_neg hix] at h2
          have hcl := h.cl i h0 h1 h2 (fun z => h3 (List.mem_append_left _ z)) h4
          intro y hy
          have hyn := nb_in he hy
          rw [hg y hyn.1, hg i h0, if_neg hix]
          split
          · rename_i c
            subst c
            have := hcl y hy
            omega
          · exact hcl y hy
      have hv2 : gt (L.set x.toNat s) v = s := by
        by_cases hv0 : 0 ≤ v
        · rw [hg v hv0, if_neg (fun z => hxv z.symm)]; exact hv
        · have := nb_in he (nb_symm hxn); omega
      obtain ⟨L', o', e1, e2, e3, e4, e5, e6⟩ := inn_ok he hs hsn xs (L.set x.toNat s) (o ++ [x]) (fun y hy => hx y (List.mem_cons_of_mem _ hy)) hlv (fun i h0 h1 h2 => by
        rw [hg i h0] at h2
        split at h2
        · omega
        · exact hsi i h0 h1 h2) hD hv2 (by rw [List.length_append]; simp only [List.length_cons, List.length_nil]; omega)
      refine ⟨L', o', e1, e2, e3, ?_, ?_, ?_⟩
      · rw [List.length_append] at e4
        simp only [List.length_cons, List.length_nil] at e4
        omega
      · intro y h0 h1 h2
        have hyx : y ≠ x := by rintro rfl; omega
        have := e5 y h0 h1 (by rw [hg y h0, if_neg hyx]; exact h2)
        rw [this, hg y h0, if_neg hyx]
      · intro y hy
        rcases List.mem_cons.mp hy with rfl | hy
        · have := e5 y hin.1 hin.2 (by rw [hg y hin.1, if_pos rfl]; exact hs)
          rw [this, hg y hin.1, if_pos rfl]; exact hs
        · exact e6 y hy
    · rw [if_neg hneg]
      obtain ⟨L', o', e1, e2, e3, e4, e5, e6⟩ := inn_ok he hs hsn xs L o (fun y hy => hx y (List.mem_cons_of_mem _ hy)) hlv hsi h hv hb
      refine ⟨L', o', e1, e2, e3, e4, e5, ?_⟩
      intro y hy
      rcases List.mem_cons.mp hy with rfl | hy
      · rw [e5 y hin.1 hin.2 (by omega)]; omega
      · exact e6 y hy
theorem take_last {o : List Int} (h : 0 < o.length) : o = o.take ((o.length : Int) - 1).toNat ++ [gt o ((o.length : Int) - 1)] := by
  have e : ((o.length : Int) - 1).toNat = o.length - 1 := by omega
  unfold gt
  rw [e, List.getD_eq_getElem?_getD, List.getElem?_eq_getElem (by omega), Option.getD_some]
  conv => lhs; rw [← List.take_append_drop (o.length - 1) o]
  congr 1
  rw [List.drop_eq_getElem_cons (by omega), List.drop_eq_nil_of_le (by omega)]
theorem whl_ok {n : Int} {es : List E} (he : Ends n es) {s : Int} (hs : 0 ≤ s) (hsn : s < n) : ∀ (k : Nat) (L o : List Int), (∀ i, 0 ≤ i → i < n → gt L i < 0 → s ≤ i) → DO n es s L o (-1) → o.length + 2 * unl n L < k → o.length + 2 * unl n L ≤ 281474976710000 →
    ∃ L', whl es s k L o = some L' ∧ DO n es s L' [] (-1) ∧ (∀ i, 0 ≤ i → i < n → gt L' i < 0 → s ≤ i)
  | 0, L, o, _, _, hk, _ => by omega
  | k + 1, L, o, hsi, h, hk, hb => by
    unfold whl
    by_cases ho : (o.length : Int) > 0
    · rw [if_pos ho]
      have ht := take_last (o := o) (by omega)
      generalize hv : gt o ((o.length : Int) - 1) = v at *
      generalize hp : o.take ((o.length : Int) - 1).toNat = p at *
      have hvo : v ∈ o := by rw [ht]; simp
      have z := h.opn v hvo
      have hlv : lab es v = lab es s := by
        have := h.val v z.1 z.2.1
        rw [z.2.2] at this
        rcases this with w | w
        · omega
        · exact w.2.2.2.symm
      have hol : o.length = p.length + 1 := by
        have := congrArg List.length ht
        rw [List.length_append] at this
        simpa using this
      have hD : DO n es s L p v := by
        refine ⟨h.toDI, h.at_s, fun x hx => h.opn x (by rw [ht]; simp [hx]), ?_⟩
        intro i h0 h1 h2 h3 h4
        refine h.cl i h0 h1 h2 ?_ (by omega)
        rw [ht]
        intro hi
        rcases List.mem_append.mp hi with hi | hi
        · exact h3 hi
        · exact h4 (by simpa using hi)
      obtain ⟨L', o', e1, e2, e3, e4, e5, e6⟩ := inn_ok he hs hsn (nb es v) L p (fun _ hx => hx) hlv hsi hD z.2.2 (by omega)
      rw [e1, Option.bind_some]
      have hsi' : ∀ i, 0 ≤ i → i < n → gt L' i < 0 → s ≤ i := by
        intro i h0 h1 h2
        by_cases hg : gt L i < 0
        · exact hsi i h0 h1 hg
        · have := e5 i h0 h1 (by omega); omega
      have hD2 : DO n es s L' o' (-1) := by
        refine ⟨e2.toDI, e2.at_s, e2.opn, ?_⟩
        intro i h0 h1 h2 h3 _
        by_cases hiv : i = v
        · subst hiv
          intro x hx
          have hxn := nb_in he hx
          have hx0 := e6 x hx
          rw [e3]
          by_cases hxs : gt L' x = s
          · exact hxs
          · exfalso
            have hxo : x ∉ o' := fun hm => hxs (e2.opn x hm).2.2
            have hxv : x ≠ i := by rintro rfl; exact hxs e3
            have := e2.cl x hxn.1 hxn.2 hx0 hxo hxv i (nb_symm hx)
            omega
        · exact e2.cl i h0 h1 h2 h3 hiv
      obtain ⟨L2, f1, f2, f3⟩ := whl_ok he hs hsn k L' o' hsi' hD2 (by omega) (by omega)
      exact ⟨L2, f1, f2, f3⟩
    · rw [if_neg ho]
      have : o = [] := List.length_eq_zero_iff.mp (by omega)
      subst this
      exact ⟨L, rfl, h, hsi⟩
structure SI (n : Int) (es : List E) (s : Int) (L : List Int) : Prop where
  len : L.length = n.toNat
  val : ∀ i, 0 ≤ i → i < n → gt L i = -1 ∨ (0 ≤ gt L i ∧ gt L i ≤ i ∧ gt L i < s ∧ lab es (gt L i) = lab es i)
  all : ∀ i, 0 ≤ i → i < s → i < n → 0 ≤ gt L i
  cl : ∀ i, 0 ≤ i → i < n → 0 ≤ gt L i → Cl es L i
theorem unl_le (n : Int) (L : List Int) : unl n L ≤ n.toNat := by
  unfold unl
  have := List.countP_le_length (p := fun i : Nat => decide (gt L i < 0)) (l := List.range n.toNat)
  rwa [List.length_range] at this
theorem sts_ok {n : Int} {es : List E} (he : Ends n es) (hn : n ≤ 1000) {k : Nat} (hk : 2 * n.toNat + 3 ≤ k) : ∀ (j : Nat) (s : Int) (L : List Int), 0 ≤ s → s ≤ n → SI n es s L → (n - s).toNat < j → sts es n k j s L = some (labs n es)
  | 0, s, L, _, _, _, hj => by omega
  | j + 1, s, L, hs, hsn, h, hj => by
    unfold sts
    by_cases hlt : s < n
    · have hlen := h.len
      rw [if_pos hlt, if_pos ⟨hs, by omega⟩]
      by_cases hg : gt L s ≥ 0
      · rw [if_pos hg]
        refine sts_ok he hn hk j (s + 1) L (by omega) (by omega) ⟨hlen, ?_, ?_, h.cl⟩ (by omega)
        · intro i h0 h1
          rcases h.val i h0 h1 with v | v
          · exact Or.inl v
          · exact Or.inr ⟨v.1, v.2.1, by omega, v.2.2.2⟩
        · intro i h0 h1 h2
          by_cases e : i = s
          · subst e; exact hg
          · exact h.all i h0 (by omega) h2
      · rw [if_neg hg]
        have hset : ∀ i, 0 ≤ i → gt (L.set s.toNat s) i = if i = s then s else gt L i := fun i h0 => gt_set hs (by omega) h0
        have hu := unl_set hlen hs hlt (by omega : gt L s < 0) hs
        have hul := unl_le n L
        obtain ⟨L', w1, w2, w3⟩ := whl_ok he hs hlt k (L.set s.toNat s) [s] (by
            intro i h0 h1 h2
            rw [hset i h0] at h2
            split at h2
            · omega
            · apply Classical.byContradiction
              intro c
              have := h.all i h0 (by omega) h1
              omega)
          (by
            refine ⟨⟨by rw [List.length_set]; exact hlen, ?_, ?_⟩, ?_, ?_, ?_⟩
            · intro i h0 h1
              rw [hset i h0]
              split
              · rename_i c; subst c; right; exact ⟨hs, Int.le_refl _, Int.le_refl _, rfl⟩
              · rcases h.val i h0 h1 with v | v
                · exact Or.inl v
                · exact Or.inr ⟨v.1, v.2.1, by omega, v.2.2.2⟩
            · intro i h0 h1 h2
              rw [hset i h0]
              split
              · exact hs
              · exact h.all i h0 h1 h2
            · rw [hset s hs, if_pos rfl]
            · intro x hx
              obtain rfl : x = s := by simpa using hx
              exact ⟨hs, hlt, by rw [hset x hs, if_pos rfl]⟩
            · intro i h0 h1 h2 h3 _
              have his : i ≠ s := by simpa using h3
              rw [hset i h0, if_neg his] at h2
              intro x hx
              have hxn := nb_in he hx
              have hc := h.cl i h0 h1 h2 x hx
              rw [hset x hxn.1, hset i h0, if_neg his]
              split
              · rename_i c; subst c; omega
              · exact hc)
          (by simp only [List.length_cons, List.length_nil]; omega) (by simp only [List.length_cons, List.length_nil]; omega)
        rw [w1, Option.bind_some]
        refine sts_ok he hn hk j (s + 1) L' (by omega) (by omega) ⟨w2.len, ?_, ?_, ?_⟩ (by omega)
        · intro i h0 h1
          rcases w2.val i h0 h1 with v | v
          · exact Or.inl v
          · exact Or.inr ⟨v.1, v.2.1, by omega, v.2.2.2⟩
        · intro i h0 h1 h2
          by_cases e : i = s
          · subst e; rw [w2.at_s]; exact hs
          · exact w2.all i h0 (by omega) h2
        · intro i h0 h1 h2
          exact w2.cl i h0 h1 h2 (by simp) (by omega)
    · rw [if_neg hlt]
      obtain rfl : s = n := by omega
      congr 1
      refine eq_labs h.len ?_
      have hall : ∀ i, 0 ≤ i → i < s → 0 ≤ gt L i := fun i h0 h1 => h.all i h0 h1 h1
      refine lab_unique he (gt L) ?_ ?_ ?_
      · intro e hm
        have x := he e hm
        have c := h.cl e.1 x.1 x.2.1 (hall _ x.1 x.2.1) e.2 (mem_nb.mpr ⟨e, hm, Or.inl ⟨rfl, rfl⟩⟩)
        exact c.symm
      · intro i h0 h1
        rcases h.val i h0 h1 with v | v
        · have := hall i h0 h1; omega
        · exact ⟨v.1, v.2.1⟩
      · intro i h0 h1
        rcases h.val i h0 h1 with v | v
        · have := hall i h0 h1; omega
        · exact v.2.2.2
theorem gt_replicate {n : Nat} {i : Int} (h0 : 0 ≤ i) (h : i < n) : gt (List.replicate n (-1)) i = -1 := by
  unfold gt
  rw [List.getD_eq_getElem?_getD, List.getElem?_replicate, if_pos (by omega)]; rfl
theorem least_labs {n : Int} {es : List E} (he : Ends n es) (h0 : 0 ≤ n) (hn : n ≤ 1000) {k : Nat} (hk : 2 * n.toNat + 3 ≤ k) : least k n es = some (labs n es) := by
  unfold least
  rw [if_pos h0]
  refine sts_ok he hn hk k 0 _ (by omega) h0 ⟨by simp, ?_, ?_, ?_⟩ (by omega)
  · intro i h0 h1; left; exact gt_replicate h0 (by omega)
  · intro i h0 h1 _; omega
  · intro i h0 h1 h2
    rw [gt_replicate h0 (by omega)] at h2; omega
end Go.Proofs.Ytbnndmkkmceenaa.Gr
