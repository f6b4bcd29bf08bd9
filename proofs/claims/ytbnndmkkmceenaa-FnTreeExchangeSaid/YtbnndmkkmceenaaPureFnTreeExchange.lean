/- The law FnTreeExchange of the printed functions: any run beside a tree takes the place of one of its runs. -/
import Derived.Test.YtbnndmkkmceenaaPureFnTree
import Derived.Test.YtbnndmkkmceenaaG2
import Derived.Test.YtbnndmkkmceenaaP1x12
namespace Go.Proofs.Ytbnndmkkmceenaa.Pure
set_option linter.unusedVariables false
set_option linter.unusedSimpArgs false
open Go.RowKit Go.Proofs.Ytbnndmkkmceenaa.P0 Go.Proofs.Ytbnndmkkmceenaa.P1 Go.Proofs.YtbnndmkkmceenaaW.PrintWords Go.Proofs.YtbnndmkkmceenaaW.PrintLast
theorem insA_cons (o y : Int) (s : List Int) : Gr.insA o (y :: s) = if y > o then o :: y :: s else y :: Gr.insA o s := rfl
theorem insA_front {o : Int} : ∀ {s : List Int}, (∀ y ∈ s, o < y) → Gr.insA o s = o :: s
  | [], _ => rfl
  | y :: s, h => by unfold Gr.insA; rw [if_pos (h y (by simp))]
def rem (t : List Int) (p i : Int) : List Int := if i ≤ p then (t.drop i.toNat).eraseIdx (p - i).toNat else t.drop i.toNat
theorem rem_end {t : List Int} {p i : Int} (h : (t.length : Int) ≤ i) : rem t p i = [] := by
  unfold rem; rw [drop_end h]; split <;> rfl
theorem rem_at {t : List Int} {p : Int} (h0 : 0 ≤ p) (h1 : p < t.length) : rem t p p = rem t p (p + 1) := by
  unfold rem
  rw [if_pos (Int.le_refl _), if_neg (by omega), drop_int h0 h1, show (p - p).toNat = 0 by omega]
  rfl
theorem rem_ne {t : List Int} {p i : Int} (h0 : 0 ≤ i) (h1 : i < t.length) (hp : i ≠ p) : rem t p i = rd t i :: rem t p (i + 1) := by
  unfold rem
  by_cases c : i ≤ p
  · rw [if_pos c, if_pos (by omega), drop_int h0 h1, show (p - i).toNat = (p - (i + 1)).toNat + 1 by omega]
    rfl
  · rw [if_neg c, if_neg (by omega), drop_int h0 h1]
theorem rem_gt {N : Int} {t : List Int} {p : Int} (ha : Gr.asc (-1) N t = true) (h0 : 0 ≤ p) (h1 : p < t.length) : ∀ y ∈ rem t p (p + 1), rd t p < y := by
  intro y hy
  unfold rem at hy
  rw [if_neg (by omega)] at hy
  have e : t = t.take p.toNat ++ rd t p :: t.drop (p + 1).toNat := by rw [← drop_int h0 h1, List.take_append_drop]
  rw [e] at ha
  have a3 := (Gr.asc_append ha).2.2
  simp only [Gr.asc, Bool.and_eq_true] at a3
  exact (Gr.asc_mem a3.2 y hy).1
theorem ex_l4 {n : Int} {l : List Rn} {t : List Int} (hl : l.length ≤ 12) (htl : t.length ≤ 12) (ha : Gr.asc (-1) l.length t = true) {o : Int} {F : List Int} {ok : Bool} {p : Int} (p0 : 0 ≤ p) (p1 : p < t.length) (C : Nat) (H : ∀ k, C ≤ k → laws_FnTreeExchange.l3 k n l t o F ok (treeIs n l (Gr.insA o (rem t p 0))) (p + 1) = some true) :
    ∀ (d k : Nat) (i : Int) (Y : List Int) (b : Bool), 0 ≤ i → i + d = t.length → (Y.length : Int) ≤ i + 1 → (b = true → Y ++ rem t p i = Gr.insA o (rem t p 0)) → (b = false → Y ++ Gr.insA o (rem t p i) = Gr.insA o (rem t p 0)) → C + 2 * d + 1500 ≤ k → laws_FnTreeExchange.l4 k n l t o F ok p Y b i = some true := by
  intro d
  induction d with
  | zero =>
    intro k i Y b h0 h1 hY hb hc hk
    obtain ⟨k, rfl⟩ : ∃ m, k = m + 1 := ⟨k - 1, by omega⟩
    simp only [laws_FnTreeExchange.l4]
    rw [rem_end (show (t.length : Int) ≤ i by omega)] at hb hc
    rw [if_neg (by omega), w64 (p + 1) (by omega) (by omega)]
    cases b with
    | true =>
      have e := hb rfl
      rw [List.append_nil] at e
      rw [if_pos rfl, iTreeIs_eq _ _ _ (by omega) (by omega) k (by omega), Option.bind_some, e]
      exact H k (by omega)
    | false =>
      have e := hc rfl
      simp only [Gr.insA] at e
      rw [if_neg (by decide), if_pos (by omega), iTreeIs_eq _ _ _ (by omega) (by simp; omega) k (by omega), Option.bind_some, e]
      exact H k (by omega)
  | succ d ih =>
    intro k i Y b h0 h1 hY hb hc hk
    have step : ∀ k, C + 2 * d + 1500 + 1 ≤ k → ∀ c, (b = true → c = false) → (b = false → c = decide (rd t i > o)) → laws_FnTreeExchange.j7 k n l t o F ok p Y b i c = some true := by
      intro k hk c h3 h4
      obtain ⟨k, rfl⟩ : ∃ m, k = m + 1 := ⟨k - 1, by omega⟩
      simp only [laws_FnTreeExchange.j7]
      rw [w64 (i + 1) (by omega) (by omega)]
      cases c with
      | true =>
        have bf : b = false := by cases b with
          | true => exact absurd (h3 rfl) (by decide)
          | false => rfl
        have hgt : rd t i > o := by have := h4 bf; exact of_decide_eq_true this.symm
        have e := hc bf
        rw [if_pos rfl, if_pos (by omega), Option.bind_some]
        by_cases q : i = p
        · rw [if_pos q]
          subst q
          rw [rem_at h0 (by omega)] at e
          rw [insA_front (fun y hy => by have := rem_gt ha h0 (by omega) y hy; omega)] at e
          exact ih k (i + 1) _ true (by omega) (by omega) (by simp; omega) (fun _ => by rw [List.append_assoc]; exact e) (fun z => by cases z) (by omega)
        · rw [if_neg q, if_pos h0, if_pos (by omega), if_pos (by simp; omega)]
          rw [rem_ne h0 (by omega) q] at e
          rw [insA_cons, if_pos hgt] at e
          exact ih k (i + 1) _ true (by omega) (by omega) (by
            have : (Y.length : Int) ≤ i := by
              -- o itself takes one place of the count
              have z : (Y ++ o :: rd t i :: rem t p (i + 1)).length = (Gr.insA o (rem t p 0)).length := by rw [e]
              rw [Gr.insA_length, List.length_append, List.length_cons, List.length_cons] at z
              have r0 : (rem t p 0).length + 1 = t.length := by
                unfold rem
                rw [if_pos p0, Int.toNat_zero, List.drop_zero, List.length_eraseIdx, if_pos (by omega)]
                omega
              have r1 : (rem t p (i + 1)).length + (if i + 1 ≤ p then 1 else 0) = d := by
                unfold rem
                by_cases w : i + 1 ≤ p
                · rw [if_pos w, if_pos w, List.length_eraseIdx, List.length_drop, if_pos (by omega)]; omega
                · rw [if_neg w, if_neg w, List.length_drop]; omega
              split at r1 <;> omega
            simp; omega) (fun _ => by simp only [List.append_assoc, List.cons_append, List.nil_append]; exact e) (fun z => by cases z) (by omega)
      | false =>
        rw [if_neg (by decide)]
        by_cases q : i = p
        · rw [if_pos q]
          subst q
          exact ih k (i + 1) _ b (by omega) (by omega) (by omega) (fun z => by rw [← rem_at h0 (by omega)]; exact hb z) (fun z => by rw [← rem_at h0 (by omega)]; exact hc z) (by omega)
        · rw [if_neg q, if_pos h0, if_pos (by omega), if_pos (by omega)]
          refine ih k (i + 1) _ b (by omega) (by omega) (by simp; omega) (fun z => ?_) (fun z => ?_) (by omega)
          · have := hb z
            rw [rem_ne h0 (by omega) q] at this
            rw [List.append_assoc]; exact this
          · have := hc z
            rw [rem_ne h0 (by omega) q] at this
            have hng : ¬ rd t i > o := by have := h4 z; simpa using this
            rw [insA_cons, if_neg hng] at this
            rw [List.append_assoc]; exact this
    obtain ⟨k, rfl⟩ : ∃ m, k = m + 1 := ⟨k - 1, by omega⟩
    simp only [laws_FnTreeExchange.l4]
    rw [if_pos (by omega)]
    cases b with
    | true =>
      rw [if_pos rfl]
      exact step k (by omega) false (fun _ => rfl) (fun z => by cases z)
    | false =>
      rw [if_neg (by decide), if_pos h0]
      exact step k (by omega) _ (fun z => by cases z) (fun _ => rfl)
theorem ex_l3 {n : Int} {l : List Rn} {t : List Int} (hl : l.length ≤ 12) (htl : (t.length : Int) = n - 1) (h2 : t.length ≤ 12) (ha : Gr.asc (-1) l.length t = true) {o : Int} {F : List Int} (hF : (F.length : Int) = n - 1) (hn : 2 ≤ n ∧ n ≤ 6) :
    ∀ (d k : Nat) (p : Int) (b : Bool), 0 ≤ p → p + d = t.length → (b = true ∨ ∃ q, p ≤ q ∧ q < t.length ∧ treeIs n l (Gr.insA o (rem t q 0)) = true) → d * 2000 + 100 ≤ k → laws_FnTreeExchange.l3 k n l t o F true b p = some true := by
  have fin : ∀ k p, 1 ≤ k → laws_FnTreeExchange.j5 k n l t o F true true p false = some true := by
    intro k p hk
    obtain ⟨k, rfl⟩ : ∃ m, k = m + 1 := ⟨k - 1, by omega⟩
    simp only [laws_FnTreeExchange.j5]
    rw [w64 _ (by omega) (by omega), hF]
    simp
  intro d
  induction d with
  | zero =>
    intro k p b h0 h1 hb hk
    obtain ⟨k, rfl⟩ : ∃ m, k = m + 1 := ⟨k - 1, by omega⟩
    simp only [laws_FnTreeExchange.l3]
    rw [if_neg (by omega)]
    rcases hb with rfl | ⟨q, q0, q1, _⟩
    · exact fin k p (by omega)
    · omega
  | succ d ih =>
    intro k p b h0 h1 hb hk
    obtain ⟨k, rfl⟩ : ∃ m, k = m + 1 := ⟨k - 1, by omega⟩
    simp only [laws_FnTreeExchange.l3]
    rw [if_pos (by omega)]
    cases b with
    | true => exact fin k p (by omega)
    | false =>
      obtain ⟨k, rfl⟩ : ∃ m, k = m + 1 := ⟨k - 1, by omega⟩
      simp only [laws_FnTreeExchange.j5, Bool.not_false, if_true]
      have hq : ∃ q, p ≤ q ∧ q < t.length ∧ treeIs n l (Gr.insA o (rem t q 0)) = true := by
        rcases hb with hb | hb
        · cases hb
        · exact hb
      refine ex_l4 hl h2 ha h0 (by omega) (d * 2000 + 100) (fun k hk => ih k (p + 1) _ (by omega) (by omega) ?_ hk) t.length k 0 [] false (by omega) (by omega) (by simp) (fun z => by cases z) (fun _ => rfl) (by omega)
      cases hT : treeIs n l (Gr.insA o (rem t p 0)) with
      | true => exact .inl rfl
      | false =>
        right
        obtain ⟨q, q0, q1, q2⟩ := hq
        refine ⟨q, ?_, q1, q2⟩
        have : q ≠ p := by rintro rfl; rw [hT] at q2; cases q2
        omega
theorem ex_l2 {n : Int} {l : List Rn} {t : List Int} {o : Int} (m : Nat) (hm : m ≤ 1000) (C : Nat) (H : ∀ k, C ≤ k → laws_FnTreeExchange.l3 k n l t o ((List.range m).map (fun k : Nat => (k : Int))) true (decide (o < 0)) 0 = some true) : ∀ (d k : Nat) (i : Int), 0 ≤ i → i + d = m → C + d + 1 ≤ k → laws_FnTreeExchange.l2 k n l t o ((List.range m).map (fun k : Nat => (k : Int))) true i = some true := by
  intro d
  induction d with
  | zero =>
    intro k i h0 h1 hk
    obtain ⟨k, rfl⟩ : ∃ m, k = m + 1 := ⟨k - 1, by omega⟩
    simp only [laws_FnTreeExchange.l2]
    rw [if_neg (by simp; omega)]
    exact H k (by omega)
  | succ d ih =>
    intro k i h0 h1 hk
    obtain ⟨k, rfl⟩ : ∃ m, k = m + 1 := ⟨k - 1, by omega⟩
    simp only [laws_FnTreeExchange.l2]
    have e : rd ((List.range m).map (fun k : Nat => (k : Int))) i = i := by
      rw [rd_gt, Gr.gt_range _ _ h0 (by omega)]; omega
    rw [if_pos (by simp; omega), if_pos h0, if_pos e, w64 _ (by omega) (by omega)]
    exact ih k (i + 1) (by omega) (by omega) (by omega)
theorem swap_tree {n : Int} {l : List Rn} {t : List Int} (hT : treeIs n l t = true) {o : Int} (o0 : 0 ≤ o) (o1 : o < l.length) (ho : o ∉ t) : ∃ q, 0 ≤ q ∧ q < (t.length : Int) ∧ treeIs n l (Gr.insA o (rem t q 0)) = true := by
  have h := treeIs_iff.mp hT
  have v := valid_iff.mp h.1
  have he := ok_ends v.2.2.2
  have hpk : ∀ e ∈ Gr.pk (es l) t, e ∈ es l := Gr.pk_mem (last := -1) (by omega) (by rw [es_length]; exact h.2.2.1)
  have hom : Gr.ed (es l) o.toNat ∈ es l := Gr.ed_mem (by rw [es_length]; omega)
  have hE : Gr.Ends n (Gr.ed (es l) o.toNat :: Gr.pk (es l) t) := he.sub (fun e hm => by
    rcases List.mem_cons.mp hm with rfl | hm
    · exact hom
    · exact hpk e hm)
  have hlen : ((Gr.pk (es l) t).length : Int) = n - 1 := by unfold Gr.pk; rw [List.length_map]; exact h.2.1
  obtain ⟨A, e, B, hAB, w⟩ := Gr.exchange (by omega) hE hlen h.2.2.2
  have hq : A.length < t.length := by
    have : (Gr.pk (es l) t).length = t.length := by unfold Gr.pk; simp
    rw [hAB] at this; simp at this; omega
  have q0 : (0 : Int) ≤ (A.length : Int) := by omega
  have hrem : rem t (A.length : Int) 0 = t.take A.length ++ t.drop (A.length + 1) := by
    unfold rem
    rw [if_pos q0, Int.toNat_zero, List.drop_zero, show ((A.length : Int) - 0).toNat = A.length by omega, List.eraseIdx_eq_take_drop_succ]
  have ht : t = t.take A.length ++ rd t A.length :: t.drop (A.length + 1) := by
    have := drop_int (l := t) (i := (A.length : Int)) q0 (by omega)
    rw [Int.toNat_natCast, show ((A.length : Int) + 1).toNat = A.length + 1 by omega] at this
    rw [← this, List.take_append_drop]
  have hpkr : Gr.pk (es l) (rem t (A.length : Int) 0) = A ++ B := by
    have e1 : Gr.pk (es l) t = Gr.pk (es l) (t.take A.length) ++ Gr.ed (es l) (rd t A.length).toNat :: Gr.pk (es l) (t.drop (A.length + 1)) := by
      conv => lhs; rw [ht]
      unfold Gr.pk; simp
    rw [hAB] at e1
    have l1 : (Gr.pk (es l) (t.take A.length)).length = A.length := by unfold Gr.pk; rw [List.length_map, List.length_take]; omega
    obtain ⟨e2, e3⟩ := List.append_inj e1 l1.symm
    rw [hrem]
    have e4 : B = Gr.pk (es l) (t.drop (A.length + 1)) := (List.cons.inj e3).2
    rw [e2, e4] at *
    unfold Gr.pk; simp
  have hsub : ∀ x ∈ rem t (A.length : Int) 0, x ∈ t := by
    intro x hx
    rw [hrem] at hx
    rw [ht]
    rcases List.mem_append.mp hx with hx | hx
    · exact List.mem_append_left _ hx
    · exact List.mem_append_right _ (List.mem_cons_of_mem _ hx)
  have hasc : Gr.asc (-1) l.length (rem t (A.length : Int) 0) = true := by
    rw [hrem]
    have := h.2.2.1
    rw [ht] at this
    exact Gr.asc_drop this
  have hasc2 := Gr.asc_insA hasc (show (-1 : Int) < o by omega) o1 (fun z => ho (hsub _ z))
  refine ⟨A.length, q0, by omega, treeIs_iff.mpr ⟨h.1, ?_, hasc2, ?_⟩⟩
  · rw [Gr.insA_length, hrem, List.length_append, List.length_take, List.length_drop]
    have := h.2.1
    omega
  · refine w.mono (he.sub (Gr.pk_mem (last := -1) (by omega) (by rw [es_length]; exact hasc2))) (fun x hx => ?_)
    have mem : ∀ z, z ∈ Gr.insA o (rem t (A.length : Int) 0) → Gr.ed (es l) z.toNat ∈ Gr.pk (es l) (Gr.insA o (rem t (A.length : Int) 0)) := fun z hz => List.mem_map.mpr ⟨z, hz, rfl⟩
    rcases List.mem_cons.mp hx with rfl | hx
    · exact mem o (Gr.mem_insA.mpr (.inl rfl))
    · rw [← hpkr] at hx
      obtain ⟨z, hz, rfl⟩ := List.mem_map.mp hx
      exact mem z (Gr.mem_insA.mpr (.inr hz))
theorem es_append (a b : List Rn) : es (a ++ b) = es a ++ es b := by rw [es_eq, es_eq, es_eq, List.map_append]
theorem ex_front {n : Int} {l : List Rn} {t : List Int} (hT : treeIs n l t = true) {X R : List Rn} (hX : X = pick l t ++ R) (hR : ∀ r ∈ R, okRun n r = true) (hl : X.length ≤ 12) : treeFirst n X = ((List.range t.length).map (fun k : Nat => (k : Int)), true) := by
  have h := treeIs_iff.mp hT
  have v := valid_iff.mp h.1
  have hin := asc_in h.2.2.1
  have hX2 : ∀ r ∈ X, okRun n r = true := by
    intro r hr
    rw [hX] at hr
    rcases List.mem_append.mp hr with hr | hr
    · exact pick_ok v.2.2.2 hin r hr
    · exact hR r hr
  have hv : valid n X = true := valid_iff.mpr ⟨v.1, v.2.1, hl, hX2⟩
  have hE := ok_ends hX2
  have e : es X = Gr.pk (es l) t ++ es R := by rw [hX, es_append, es_pick]
  have hw : Gr.Whole n (es X) := h.2.2.2.mono hE (fun x hx => by rw [e]; exact List.mem_append_left _ hx)
  have hW : netWhole n X = true := netWhole_iff.mpr ⟨hv, hw⟩
  unfold treeFirst
  rw [if_pos hW]
  have hlen : (Gr.pk (es l) t).length = t.length := by unfold Gr.pk; simp
  rw [e] at hE ⊢
  have := Gr.first_front (n := n) (by omega) hE (by rw [hlen]; exact h.2.1) h.2.2.2
  rw [this, hlen]
theorem ex_l1 {n : Int} {l : List Rn} {t : List Int} (hT : treeIs n l t = true) : ∀ (d k : Nat) (i j o : Int) (R : List Rn), 0 ≤ i → i + d = l.length → 0 ≤ j → j ≤ t.length → (R.length : Int) = i - j → (∀ r ∈ R, okRun n r = true) → (∀ x ∈ t.take j.toNat, x < i) → (∀ x ∈ t.drop j.toNat, i ≤ x) → (o < 0 ∨ (0 ≤ o ∧ o < l.length ∧ o ∉ t)) → d + 60000 ≤ k → laws_FnTreeExchange.l1 k n l t (pick l t ++ R) o j i = some true := by
  have h := treeIs_iff.mp hT
  have v := valid_iff.mp h.1
  have hin := asc_in h.2.2.1
  intro d
  induction d with
  | zero =>
    intro k i j o R h0 h1 j0 j1 hRl hR ht hd ho hk
    obtain ⟨k, rfl⟩ : ∃ m, k = m + 1 := ⟨k - 1, by omega⟩
    have hj : j = t.length := by
      apply Classical.byContradiction
      intro hj
      have m1 : rd t j ∈ t.drop j.toNat := by rw [drop_int j0 (by omega)]; simp
      have := hd _ m1
      have := hin _ (int_mem j0 (by omega))
      omega
    have hXl : (pick l t ++ R).length = l.length := by rw [List.length_append, pick_length]; omega
    simp only [laws_FnTreeExchange.l1]
    rw [if_neg (by omega), iTreeFirst_eq _ _ (by omega) k (by omega), ex_front hT rfl hR (by omega), Option.bind_some]
    refine ex_l2 t.length (by omega) 50000 (fun k hk => ?_) t.length k 0 (by omega) (by omega) (by omega)
    refine ex_l3 (by omega) h.2.1 (by omega) h.2.2.1 (by simp; exact h.2.1) ⟨v.1, v.2.1⟩ t.length k 0 _ (by omega) (by omega) ?_ (by omega)
    rcases ho with ho | ⟨o0, o1, o2⟩
    · exact .inl (decide_eq_true ho)
    · obtain ⟨q, q0, q1, q2⟩ := swap_tree hT o0 o1 o2
      exact .inr ⟨q, q0, q1, q2⟩
  | succ d ih =>
    intro k i j o R h0 h1 j0 j1 hRl hR ht hd ho hk
    obtain ⟨k, rfl⟩ : ∃ m, k = m + 1 := ⟨k - 1, by omega⟩
    have hpl : (pick l t ++ R).length ≤ 100 := by rw [List.length_append, pick_length]; omega
    have skip : (∀ x ∈ t.drop j.toNat, i < x) → laws_FnTreeExchange.l1 k n l t ((pick l t ++ R) ++ [rd_T36 l i]) i j (i + 1) = some true := by
      intro hd2
      rw [List.append_assoc]
      refine ih k (i + 1) j i _ (by omega) (by omega) j0 j1 (by simp; omega) (fun r hr => ?_) (fun x hx => by have := ht x hx; omega) (fun x hx => by have := hd2 x hx; omega) (.inr ⟨h0, by omega, fun z => ?_⟩) (by omega)
      · rcases List.mem_append.mp hr with hr | hr
        · exact hR r hr
        · rw [List.mem_singleton] at hr; rw [hr]; exact v.2.2.2 _ (rdR_mem h0 (by omega))
      · rw [← List.take_append_drop j.toNat t] at z
        rcases List.mem_append.mp z with z | z
        · have := ht _ z; omega
        · have := hd2 _ z; omega
    simp only [laws_FnTreeExchange.l1]
    rw [if_pos (by omega), w64 (i + 1) (by omega) (by omega)]
    by_cases c : j < (t.length : Int)
    · have dj := drop_int j0 c
      rw [if_pos c, if_pos j0]
      by_cases q : rd t j = i
      · rw [if_pos q, w64 (j + 1) (by omega) (by omega)]
        refine ih k (i + 1) (j + 1) o R (by omega) (by omega) (by omega) (by omega) (by omega) hR (fun x hx => ?_) (fun x hx => ?_) ho (by omega)
        · rw [show (j + 1).toNat = j.toNat + 1 by omega, List.take_add_one] at hx
          rcases List.mem_append.mp hx with hx | hx
          · have := ht x hx; omega
          · have e : t[j.toNat]? = some (rd t j) := by
              unfold rd
              rw [List.getD_eq_getElem?_getD, List.getElem?_eq_getElem (by omega), Option.getD_some]
            rw [e] at hx
            have : x = rd t j := by simpa using hx
            omega
        · have ha := h.2.2.1
          rw [← List.take_append_drop j.toNat t, dj] at ha
          have a3 := (Gr.asc_append ha).2.2
          simp only [Gr.asc, Bool.and_eq_true] at a3
          have := (Gr.asc_mem a3.2 x hx).1
          omega
      · rw [if_neg q, if_pos h0, if_pos (by omega)]
        refine skip (fun x hx => ?_)
        have hj := hd (rd t j) (by rw [dj]; simp)
        rw [dj] at hx
        rcases List.mem_cons.mp hx with rfl | hx
        · omega
        · have ha := h.2.2.1
          rw [← List.take_append_drop j.toNat t, dj] at ha
          have a3 := (Gr.asc_append ha).2.2
          simp only [Gr.asc, Bool.and_eq_true] at a3
          have := (Gr.asc_mem a3.2 x hx).1
          omega
    · rw [if_neg c, if_pos h0, if_pos (by omega)]
      refine skip (fun x hx => ?_)
      rw [drop_end (by omega)] at hx
      cases hx
theorem ex_l0 {n : Int} {l : List Rn} {t : List Int} (hT : treeIs n l t = true) : ∀ (d k : Nat) (i : Int), 0 ≤ i → i + d = t.length → d + 70000 ≤ k → laws_FnTreeExchange.l0 k n l t (pick l (t.take i.toNat)) i = some true := by
  have h := treeIs_iff.mp hT
  have v := valid_iff.mp h.1
  have hin := asc_in h.2.2.1
  intro d
  induction d with
  | zero =>
    intro k i h0 h1 hk
    obtain ⟨k, rfl⟩ : ∃ m, k = m + 1 := ⟨k - 1, by omega⟩
    simp only [laws_FnTreeExchange.l0]
    rw [if_neg (by omega), show i.toNat = t.length by omega, List.take_length]
    have := ex_l1 hT l.length k 0 0 (-1) [] (by omega) (by omega) (by omega) (by omega) (by simp) (fun r hr => by cases hr) (fun x hx => by simp at hx) (fun x hx => by
      rw [Int.toNat_zero, List.drop_zero] at hx
      exact (hin x hx).1) (.inl (by omega)) (by omega)
    rw [List.append_nil] at this
    exact this
  | succ d ih =>
    intro k i h0 h1 hk
    obtain ⟨k, rfl⟩ : ∃ m, k = m + 1 := ⟨k - 1, by omega⟩
    have hm := hin _ (int_mem h0 (show i < t.length by omega))
    have pn := pick_next (l := l) (t := t) h0 (by omega)
    have pl : (pick l (t.take i.toNat)).length ≤ 12 := by rw [pick_length, List.length_take]; omega
    simp only [laws_FnTreeExchange.l0]
    rw [if_pos (by omega), if_pos h0, if_pos hm.1, if_pos hm.2, if_pos (by omega), w64 (i + 1) (by omega) (by omega)]
    have := ih k (i + 1) (by omega) (by omega) (by omega)
    rw [pn] at this
    exact this
theorem FnTreeExchange : ∀ (l0 : List Int), l0.length ≤ maxLen → l0.length * 1 ≤ 140737488351232 → (∀ x ∈ l0, (Lit.int .u8 x).wf = true) → ∃ k, laws_FnTreeExchange.f k l0 = some true := by
  intro l0 _ _ hw
  obtain ⟨⟨n, l, t⟩, hd, hl, ht⟩ := tot_DrawTreeIs l0 (Bytes.of_wf hw)
  dsimp only at hl ht
  refine ⟨100000 + 1, ?_⟩
  unfold laws_FnTreeExchange.f
  by_cases c : (l0.length : Int) > 1048576
  · rw [if_pos c]
  · have hd2 : spec_DrawTreeIs.f (100000 + 1) l0 = some (n, l, t) := hd _ (by omega)
    rw [if_neg c, hd2]
    simp only [Option.bind_some]
    rw [iTreeIs_eq n l t (by omega) (by omega) _ (by omega), sTreeIs_eq n l t (by omega) (by omega) _ (by omega)]
    simp only [Option.bind_some, bne_self_eq_false, Bool.false_eq_true, if_false]
    simp only [laws_FnTreeExchange.j0]
    cases hb : treeIs n l t with
    | false => simp
    | true =>
      have h := treeIs_iff.mp hb
      have v := valid_iff.mp h.1
      rw [if_neg (by decide)]
      exact ex_l0 hb t.length 100000 0 (by omega) (by omega) (by omega)
end Go.Proofs.Ytbnndmkkmceenaa.Pure
