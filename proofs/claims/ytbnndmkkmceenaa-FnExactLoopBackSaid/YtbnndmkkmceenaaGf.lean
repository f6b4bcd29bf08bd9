import Derived.Test.YtbnndmkkmceenaaGe
/- Ways along the runs of a tree that never turn back: from node to node there is one alone. Plain Lean. -/
namespace Go.Proofs.Ytbnndmkkmceenaa.Gr
set_option linter.unusedVariables false
set_option linter.unusedSimpArgs false
def ix (z : Int) : Int := (if z > 0 then z else -z) - 1
def fr (es : List E) (z : Int) : Int := if z > 0 then (ed es (ix z).toNat).1 else (ed es (ix z).toNat).2
def too (es : List E) (z : Int) : Int := if z > 0 then (ed es (ix z).toNat).2 else (ed es (ix z).toNat).1
def Wk (es : List E) (t : List Int) : Int → List Int → Int → Prop
  | u, [], v => u = v
  | u, z :: w, v => (ix z ∈ t ∧ z ≠ 0) ∧ fr es z = u ∧ Wk es t (too es z) w v
def Red : List Int → Prop
  | [] => True
  | z :: w => (∀ y, w.head? = some y → ix z ≠ ix y) ∧ Red w
theorem Red.right : ∀ {a b : List Int}, Red (a ++ b) → Red b
  | [], _, h => h
  | _ :: a, _, h => Red.right (a := a) h.2
theorem Red.left : ∀ {a b : List Int}, Red (a ++ b) → Red a
  | [], _, _ => trivial
  | z :: a, b, h => ⟨fun y hy => h.1 y (by cases a with
      | nil => cases hy
      | cons c a => simpa using hy), Red.left (a := a) h.2⟩
theorem Red.mid {a b : List Int} {y z : Int} (h : Red (a ++ y :: z :: b)) : ix y ≠ ix z := (Red.right h).1 z rfl
theorem Red.snoc : ∀ {a : List Int} {z : Int}, Red a → (∀ y, a.getLast? = some y → ix y ≠ ix z) → Red (a ++ [z])
  | [], z, _, _ => ⟨fun y hy => (by cases hy), trivial⟩
  | c :: a, z, h, hl => by
    refine ⟨fun y hy => ?_, Red.snoc (a := a) h.2 (fun y hy => hl y ?_)⟩
    · cases a with
      | nil =>
        obtain rfl : z = y := by simpa using hy
        exact hl c rfl
      | cons d a => exact h.1 y (by simpa using hy)
    · cases a with
      | nil => cases hy
      | cons d a => simpa using hy
theorem Wk.append {es : List E} {t : List Int} : ∀ {a b : List Int} {u m v : Int}, Wk es t u a m → Wk es t m b v → Wk es t u (a ++ b) v
  | [], b, u, m, v, h, h2 => by obtain rfl : u = m := h; exact h2
  | _ :: a, b, u, m, v, h, h2 => ⟨h.1, h.2.1, Wk.append (a := a) h.2.2 h2⟩
theorem Wk.mono {es : List E} {t t' : List Int} (s : ∀ x ∈ t, x ∈ t') : ∀ {a : List Int} {u v : Int}, Wk es t u a v → Wk es t' u a v
  | [], u, v, h => h
  | _ :: a, u, v, h => ⟨⟨s _ h.1.1, h.1.2⟩, h.2.1, Wk.mono s (a := a) h.2.2⟩
theorem fr_too {es : List E} {z : Int} : (fr es z = (ed es (ix z).toNat).1 ∧ too es z = (ed es (ix z).toNat).2) ∨ (fr es z = (ed es (ix z).toNat).2 ∧ too es z = (ed es (ix z).toNat).1) := by
  unfold fr too; split
  · left; exact ⟨rfl, rfl⟩
  · right; exact ⟨rfl, rfl⟩
theorem mem_pk {es : List E} {t : List Int} {z : Int} (h : ix z ∈ t) : ed es (ix z).toNat ∈ pk es t := List.mem_map.mpr ⟨ix z, h, rfl⟩
theorem step_lab {es : List E} {t : List Int} {z : Int} (h : ix z ∈ t) : lab (pk es t) (fr es z) = lab (pk es t) (too es z) := by
  have := lab_run (mem_pk (es := es) h)
  rcases fr_too (es := es) (z := z) with x | x
  · rw [x.1, x.2]; exact this
  · rw [x.1, x.2]; exact this.symm
theorem Wk.lab {es : List E} {t : List Int} : ∀ {w : List Int} {u v : Int}, Wk es t u w v → Gr.lab (pk es t) u = Gr.lab (pk es t) v
  | [], u, v, h => by obtain rfl : u = v := h; rfl
  | z :: w, u, v, h => by rw [← h.2.1, step_lab h.1.1]; exact Wk.lab h.2.2
/-- the first use of the run k -/
theorem Wk.split {es : List E} {t : List Int} {k : Int} : ∀ {w : List Int} {u v : Int}, Wk es (t ++ [k]) u w v →
    Wk es t u w v ∨ ∃ w1 z w2, w = w1 ++ z :: w2 ∧ ix z = k ∧ z ≠ 0 ∧ Wk es t u w1 (fr es z) ∧ Wk es (t ++ [k]) (too es z) w2 v
  | [], u, v, h => Or.inl h
  | z :: w, u, v, h => by
    by_cases hk : ix z = k
    · exact Or.inr ⟨[], z, w, rfl, hk, h.1.2, h.2.1.symm, h.2.2⟩
    · have hz : ix z ∈ t := by
        rcases List.mem_append.mp h.1.1 with x | x
        · exact x
        · exact absurd (List.mem_singleton.mp x) hk
      rcases Wk.split h.2.2 with x | ⟨w1, z', w2, e, h1, h2, h3, h4⟩
      · exact Or.inl ⟨⟨hz, h.1.2⟩, h.2.1, x⟩
      · exact Or.inr ⟨z :: w1, z', w2, by rw [e]; rfl, h1, h2, ⟨⟨hz, h.1.2⟩, h.2.1, h3⟩, h4⟩
/-- two numbers of one run that begin at one node are one -/
theorem num_unique {es : List E} {z z' : Int} (hz : z ≠ 0) (hz' : z' ≠ 0) (hi : ix z = ix z') (hf : fr es z = fr es z') (hne : (ed es (ix z).toNat).1 ≠ (ed es (ix z).toNat).2) : z = z' := by
  unfold fr at hf
  rw [← hi] at hf
  unfold ix at hi
  by_cases a : z > 0 <;> by_cases b : z' > 0
  · rw [if_pos a, if_pos b] at hi; omega
  · rw [if_pos a, if_neg b] at hf; exact absurd hf hne
  · rw [if_neg a, if_pos b] at hf; exact absurd hf.symm hne
  · rw [if_neg a, if_neg b] at hi; omega
def Forest (n : Int) (es : List E) (t : List Int) : Prop := Ends n (pk es t) ∧ comps n (pk es t) + t.length = n.toNat
theorem pk_snoc (es : List E) (t : List Int) (k : Int) : pk es (t ++ [k]) = pk es t ++ [ed es k.toNat] := by unfold pk; simp
theorem pk_length (es : List E) (t : List Int) : (pk es t).length = t.length := by unfold pk; simp
theorem Forest.init {n : Int} {es : List E} {t : List Int} {k : Int} (h : Forest n es (t ++ [k])) : Forest n es t ∧ lab (pk es t) (ed es k.toNat).1 ≠ lab (pk es t) (ed es k.toNat).2 ∧ (ed es k.toNat).1 ≠ (ed es k.toNat).2 := by
  obtain ⟨h1, h2⟩ := h
  rw [pk_snoc] at h1 h2
  have c := comps_snoc h1
  have c2 := comps_append (a := []) (b := pk es t) h1.left
  rw [comps_nil, List.nil_append, pk_length] at c2
  rw [List.length_append] at h2
  simp only [List.length_cons, List.length_nil] at h2
  have hne := (h1 (ed es k.toNat) (by simp)).2.2.2.2
  by_cases hs : lab (pk es t) (ed es k.toNat).1 = lab (pk es t) (ed es k.toNat).2
  · rw [if_pos hs] at c; omega
  · rw [if_neg hs] at c
    exact ⟨⟨h1.left, by omega⟩, hs, hne⟩
theorem ends_eq {es : List E} {L : Int → Int} {z z' : Int} (hi : ix z = ix z') (hne : L (ed es (ix z).toNat).1 ≠ L (ed es (ix z).toNat).2) :
    (L (too es z) = L (fr es z') → too es z = fr es z') ∧ (L (fr es z) = L (fr es z') → fr es z = fr es z') := by
  rcases fr_too (es := es) (z := z) with x | x <;> rcases fr_too (es := es) (z := z') with y | y <;> rw [x.1, x.2, y.1, ← hi]
  · exact ⟨fun q => absurd q.symm hne, fun _ => rfl⟩
  · exact ⟨fun _ => rfl, fun q => absurd q hne⟩
  · exact ⟨fun _ => rfl, fun q => absurd q.symm hne⟩
  · exact ⟨fun q => absurd q hne, fun _ => rfl⟩
theorem way_unique {n : Int} {es : List E} (t : List Int) : Forest n es t → ∀ {u v : Int} {w w' : List Int}, Wk es t u w v → Red w → Wk es t u w' v → Red w' → w = w' := by
  induction t using snoc_ind with
  | h0 =>
    intro _ u v w w' h _ h' _
    cases w with
    | cons z w => exact absurd h.1.1 (by simp)
    | nil =>
      cases w' with
      | cons z w => exact absurd h'.1.1 (by simp)
      | nil => rfl
  | h1 t k ih =>
    intro hF u v w w' h hr h' hr'
    obtain ⟨hf, hne, hab⟩ := hF.init
    have ih := fun {u v : Int} {w w' : List Int} => ih hf (u := u) (v := v) (w := w) (w' := w')
    -- behind a use of k there is no other one
    have once : ∀ {z : Int} {w : List Int} {v : Int}, ix z = k → Red (z :: w) → Wk es (t ++ [k]) (too es z) w v → Wk es t (too es z) w v := by
      intro z w v hz hr hw
      rcases hw.split with x | ⟨w1, z', w2, rfl, h1, h2, h3, h4⟩
      · exact x
      · exfalso
        have l := h3.lab
        have e := (ends_eq (es := es) (L := lab (pk es t)) (hz.trans h1.symm) (by rw [hz]; exact hne)).1 l
        have e2 : w1 = [] := ih h3 (Red.left hr.2) (show Wk es t (too es z) [] (fr es z') from e) trivial
        subst e2
        exact hr.1 z' rfl (hz.trans h1.symm)
    rcases h.split with x | ⟨w1, z, w2, rfl, a1, a2, a3, a4⟩
    · rcases h'.split with y | ⟨w1', z', w2', rfl, b1, b2, b3, b4⟩
      · exact ih x hr y hr'
      · exfalso
        have q := once b1 (Red.right hr') b4
        have l1 := b3.lab
        have l2 := q.lab
        have l3 := x.lab
        have l4 : lab (pk es t) (fr es z') = lab (pk es t) (too es z') := by rw [l2, ← l1, l3]
        rcases fr_too (es := es) (z := z') with y | y <;> rw [y.1, y.2, b1] at l4
        · exact hne l4
        · exact hne l4.symm
    · have p := once a1 (Red.right hr) a4
      rcases h'.split with y | ⟨w1', z', w2', rfl, b1, b2, b3, b4⟩
      · exfalso
        have l1 := a3.lab
        have l2 := p.lab
        have l3 := y.lab
        have l4 : lab (pk es t) (fr es z) = lab (pk es t) (too es z) := by rw [l2, ← l1, l3]
        rcases fr_too (es := es) (z := z) with y | y <;> rw [y.1, y.2, a1] at l4
        · exact hne l4
        · exact hne l4.symm
      · have q := once b1 (Red.right hr') b4
        have l : lab (pk es t) (fr es z) = lab (pk es t) (fr es z') := by rw [← a3.lab, ← b3.lab]
        have e := (ends_eq (es := es) (L := lab (pk es t)) (a1.trans b1.symm) (by rw [a1]; exact hne)).2 l
        have ez := num_unique a2 b2 (a1.trans b1.symm) e (by rw [a1]; exact hab)
        subst ez
        rw [ih a3 (Red.left hr) b3 (Red.left hr'), ih p (Red.right hr).2 q (Red.right hr').2]
theorem Wk.nodes {es : List E} {t : List Int} : ∀ {w : List Int} {u v : Int}, Wk es t u w v → ∀ z ∈ w, ix z ∈ t ∧ Gr.lab (pk es t) (fr es z) = Gr.lab (pk es t) u
  | [], u, v, _, z, hz => by cases hz
  | y :: w, u, v, h, z, hz => by
    rcases List.mem_cons.mp hz with rfl | hz
    · exact ⟨h.1.1, by rw [h.2.1]⟩
    · have := Wk.nodes h.2.2 z hz
      exact ⟨this.1, by rw [this.2, ← step_lab h.1.1, h.2.1]⟩
/-- no run is used twice -/
theorem way_nodup {n : Int} {es : List E} (t : List Int) : Forest n es t → (∀ k ∈ t, 0 ≤ k) → t.Nodup → ∀ {u v : Int} {w : List Int}, Wk es t u w v → Red w → (w.map ix).Nodup := by
  induction t using snoc_ind with
  | h0 =>
    intro _ _ _ u v w h _
    cases w with
    | cons z w => exact absurd h.1.1 (by simp)
    | nil => exact List.nodup_nil
  | h1 t k ih =>
    intro hF hp hnd u v w h hr
    obtain ⟨hf, hne, hab⟩ := hF.init
    have hkt : k ∉ t := by
      rw [List.nodup_append] at hnd
      intro hk
      exact hnd.2.2 k hk k (by simp) rfl
    have hndt : t.Nodup := by rw [List.nodup_append] at hnd; exact hnd.1
    have ih := fun {u v : Int} {w : List Int} => ih hf (fun k hk => hp k (List.mem_append_left _ hk)) hndt (u := u) (v := v) (w := w)
    rcases h.split with x | ⟨w1, z, w2, rfl, a1, a2, a3, a4⟩
    · exact ih x hr
    · have hr2 := Red.right hr
      have p : Wk es t (too es z) w2 v := by
        rcases a4.split with x | ⟨w1', z', w2', rfl, h1, h2, h3, h4⟩
        · exact x
        · exfalso
          have l := h3.lab
          have e := (ends_eq (es := es) (L := lab (pk es t)) (a1.trans h1.symm) (by rw [a1]; exact hne)).1 l
          have e2 : w1' = [] := way_unique t hf h3 (Red.left hr2.2) (show Wk es t (too es z) [] (fr es z') from e) trivial
          subst e2
          exact hr2.1 z' rfl (a1.trans h1.symm)
      have n1 := ih a3 (Red.left hr)
      have n2 := ih p hr2.2
      have hl : lab (pk es t) (fr es z) ≠ lab (pk es t) (too es z) := by
        rcases fr_too (es := es) (z := z) with y | y <;> rw [y.1, y.2, a1]
        · exact hne
        · exact fun q => hne q.symm
      rw [List.map_append, List.nodup_append, List.map_cons, List.nodup_cons]
      refine ⟨n1, ⟨?_, n2⟩, ?_⟩
      · intro hm
        obtain ⟨y, hy, he⟩ := List.mem_map.mp hm
        have := (p.nodes y hy).1
        rw [he, a1] at this
        exact hkt this
      · intro b hb c hc hbc
        obtain ⟨y, hy, rfl⟩ := List.mem_map.mp hb
        have q := a3.nodes y hy
        rcases List.mem_cons.mp hc with rfl | hc
        · rw [hbc, a1] at q; exact hkt q.1
        · obtain ⟨y', hy', rfl⟩ := List.mem_map.mp hc
          have q' := p.nodes y' hy'
          apply hl
          rw [← q'.2, ← a3.lab, ← q.2]
          -- one run, either direction
          have s1 := step_lab (es := es) q.1
          rcases fr_too (es := es) (z := y) with x | x <;> rcases fr_too (es := es) (z := y') with x' | x' <;> rw [x.1, x.2] at s1 <;> rw [x.1, x'.1, ← hbc]
          · exact s1
          · exact s1
theorem nodup_bound : ∀ (N : Nat) (l : List Int), l.Nodup → (∀ x ∈ l, 0 ≤ x ∧ x < N) → l.length ≤ N
  | 0, l, _, h => by
    cases l with
    | nil => simp
    | cons x l => have := h x (by simp); omega
  | N + 1, l, hn, h => by
    have h1 := nodup_bound N (l.erase (N : Int)) (hn.erase _) (fun x hx => by
      have := h x (List.mem_of_mem_erase hx)
      have ne : x ≠ (N : Int) := fun e => by
        subst e
        exact (List.Nodup.mem_erase_iff hn).mp hx |>.1 rfl
      omega)
    rw [List.length_erase] at h1
    split at h1 <;> omega
/-- the sum of the rises of a way is the difference of the heights of its ends -/
def rise (rs : List R) (z : Int) : Int := if z > 0 then (rs.getD (ix z).toNat (0, 0, 0)).2.2 else - (rs.getD (ix z).toNat (0, 0, 0)).2.2
theorem ed_eds {rs : List R} (k : Nat) : ed (eds rs) k = ((rs.getD k (0, 0, 0)).1, (rs.getD k (0, 0, 0)).2.1) := by
  unfold ed eds
  rw [List.getD_eq_getElem?_getD, List.getD_eq_getElem?_getD, List.getElem?_map]
  cases rs[k]? <;> rfl
theorem rise_pot {rs : List R} {P : Int → Int} {z : Int} (h : P (rs.getD (ix z).toNat (0, 0, 0)).2.1 - P (rs.getD (ix z).toNat (0, 0, 0)).1 = (rs.getD (ix z).toNat (0, 0, 0)).2.2) : rise rs z = P (too (eds rs) z) - P (fr (eds rs) z) := by
  unfold rise too fr
  rw [ed_eds]
  split <;> simp only <;> omega
theorem way_rise {rs : List R} {P : Int → Int} {t : List Int} (hP : ∀ k ∈ t, P (rs.getD k.toNat (0, 0, 0)).2.1 - P (rs.getD k.toNat (0, 0, 0)).1 = (rs.getD k.toNat (0, 0, 0)).2.2) : ∀ {w : List Int} {u v : Int}, Wk (eds rs) t u w v → (w.map (rise rs)).sum = P v - P u
  | [], u, v, h => by obtain rfl : u = v := h; simp
  | z :: w, u, v, h => by
    rw [List.map_cons, List.sum_cons, way_rise hP h.2.2, rise_pot (hP _ h.1.1), h.2.1]
    omega
end Go.Proofs.Ytbnndmkkmceenaa.Gr
