import Derived.Test.YtbnndmkkmceenaaGf
/- Two searches for the way along a tree find the one way. Plain Lean. -/
namespace Go.Proofs.Ytbnndmkkmceenaa.Gr
set_option linter.unusedVariables false
set_option linter.unusedSimpArgs false
/-! what both come to -/
def num (es : List E) (node k : Int) : Int := if (ed es k.toNat).2 = node then -(k + 1) else k + 1
def nxt (es : List E) (node k : Int) : Int := if (ed es k.toNat).2 = node then (ed es k.toNat).1 else (ed es k.toNat).2
theorem num_facts {es : List E} {node k : Int} (hk : 0 ≤ k) (h : (ed es k.toNat).1 = node ∨ (ed es k.toNat).2 = node) : ix (num es node k) = k ∧ num es node k ≠ 0 ∧ fr es (num es node k) = node ∧ too es (num es node k) = nxt es node k := by
  unfold num nxt
  by_cases c : (ed es k.toNat).2 = node
  · rw [if_pos c, if_pos c]
    have e : ix (-(k + 1)) = k := by unfold ix; rw [if_neg (by omega)]; omega
    refine ⟨e, by omega, ?_, ?_⟩
    · unfold fr; rw [if_neg (by omega), e]; exact c
    · unfold too; rw [if_neg (by omega), e]
  · rw [if_neg c, if_neg c]
    have e : ix (k + 1) = k := by unfold ix; rw [if_pos (by omega)]; omega
    refine ⟨e, by omega, ?_, ?_⟩
    · unfold fr; rw [if_pos (by omega), e]
      rcases h with h | h
      · exact h
      · exact absurd h c
    · unfold too; rw [if_pos (by omega), e]
theorem num_of {es : List E} {z : Int} (_ : z ≠ 0) (hne : (ed es (ix z).toNat).1 ≠ (ed es (ix z).toNat).2) : num es (fr es z) (ix z) = z ∧ ((ed es (ix z).toNat).1 = fr es z ∨ (ed es (ix z).toNat).2 = fr es z) := by
  have h : (ed es (ix z).toNat).1 = fr es z ∨ (ed es (ix z).toNat).2 = fr es z := by
    rcases fr_too (es := es) (z := z) with x | x
    · left; exact x.1.symm
    · right; exact x.1.symm
  refine ⟨?_, h⟩
  unfold num
  by_cases p : z > 0
  · have f : fr es z = (ed es (ix z).toNat).1 := by unfold fr; rw [if_pos p]
    rw [if_neg (by rw [f]; exact fun q => hne q.symm)]
    unfold ix; rw [if_pos p]; omega
  · have f : fr es z = (ed es (ix z).toNat).2 := by unfold fr; rw [if_neg p]
    rw [if_pos f.symm]
    unfold ix; rw [if_neg p]; omega
/-! the search that calls itself -/
def wloop (es : List E) (rec : Int → Int → Option (List Int × Bool)) (node last : Int) : List Int → Option (List Int × Bool)
  | [] => some ([], false)
  | k :: ks => if k = last then wloop es rec node last ks else
      if (ed es k.toNat).1 ≠ node ∧ (ed es k.toNat).2 ≠ node then wloop es rec node last ks else
      (rec (nxt es node k) k).bind fun r => if r.2 = true then some (num es node k :: r.1, true) else wloop es rec node last ks
def lway (es : List E) (t : List Int) (goal : Int) : Nat → Int → Int → Option (List Int × Bool)
  | 0, _, _ => none
  | d + 1, node, last => if node = goal then some ([], true) else wloop es (fun x l => lway es t goal d x l) node last t
structure Tree (n : Int) (es : List E) (t : List Int) : Prop where
  forest : Forest n es t
  nodup : t.Nodup
  range : ∀ k ∈ t, 0 ≤ k ∧ k < es.length
/-- p leads to the node and ends with the run last -/
def Came (es : List E) (t : List Int) (p : List Int) (node last : Int) : Prop := (∃ u, Wk es t u p node) ∧ Red p ∧ ((p = [] ∧ last ∉ t) ∨ ∃ y, p.getLast? = some y ∧ ix y = last)
theorem Came.bound {n : Int} {es : List E} {t : List Int} (hT : Tree n es t) {p : List Int} {node last : Int} (h : Came es t p node last) : p.length ≤ es.length := by
  obtain ⟨⟨u, hw⟩, hr, _⟩ := h
  have := way_nodup t hT.forest (fun k hk => (hT.range k hk).1) hT.nodup hw hr
  have b := nodup_bound es.length (p.map ix) this (fun x hx => by
    obtain ⟨z, hz, rfl⟩ := List.mem_map.mp hx
    exact hT.range _ (hw.nodes z hz).1)
  rwa [List.length_map] at b
theorem Came.red {es : List E} {t : List Int} {p : List Int} {node last : Int} (h : Came es t p node last) {z : Int} (_ : ix z ∈ t) (hn : ix z ≠ last) : Red (p ++ [z]) := by
  refine h.2.1.snoc (fun y hy => ?_)
  rcases h.2.2 with ⟨rfl, _⟩ | ⟨y', hy', e⟩
  · cases hy
  · rw [hy] at hy'
    obtain rfl := Option.some.inj hy'
    rw [e]; exact fun q => hn q.symm
theorem red_join : ∀ {p w : List Int} {z : Int}, Red (p ++ [z]) → Red (z :: w) → Red (p ++ z :: w)
  | [], w, z, _, h => h
  | c :: p, w, z, h, h2 => by
    refine ⟨fun y hy => h.1 y ?_, red_join (p := p) h.2 h2⟩
    cases p with
    | nil => simpa using hy
    | cons d p => simpa using hy
theorem Came.step {es : List E} {t : List Int} {p : List Int} {node last : Int} (h : Came es t p node last) {z : Int} (hz : ix z ∈ t) (h0 : z ≠ 0) (hf : fr es z = node) (hn : ix z ≠ last) : Came es t (p ++ [z]) (too es z) (ix z) := by
  obtain ⟨⟨u, hw⟩, hr, hl⟩ := h
  refine ⟨⟨u, hw.append (show Wk es t node [z] (too es z) from ⟨⟨hz, h0⟩, hf, rfl⟩)⟩, Came.red ⟨⟨u, hw⟩, hr, hl⟩ hz hn, Or.inr ⟨z, by simp, rfl⟩⟩
/-- the answer of a search at a node, behind the run last -/
def Ans (es : List E) (t : List Int) (goal node last : Int) (r : List Int × Bool) : Prop :=
  (r.2 = true ∧ Wk es t node r.1 goal ∧ Red r.1 ∧ (∀ y, r.1.head? = some y → ix y ≠ last)) ∨ (r = ([], false) ∧ ∀ w, Wk es t node w goal → Red w → ¬ ∀ y, w.head? = some y → ix y ≠ last)
theorem wloop_ok {n : Int} {es : List E} {t : List Int} (hT : Tree n es t) {goal node last : Int} {p : List Int} {rec : Int → Int → Option (List Int × Bool)} (hp : Came es t p node last) (hne : node ≠ goal)
    (hrec : ∀ z, ix z ∈ t → z ≠ 0 → fr es z = node → ix z ≠ last → ∃ r, rec (too es z) (ix z) = some r ∧ Ans es t goal (too es z) (ix z) r) :
    ∀ (ks pre : List Int), t = pre ++ ks → (∀ w, Wk es t node w goal → Red w → (∀ y, w.head? = some y → ix y ≠ last) → ∀ y, w.head? = some y → ix y ∉ pre) → ∃ r, wloop es rec node last ks = some r ∧ Ans es t goal node last r
  | [], pre, ht, hno => by
    refine ⟨([], false), rfl, Or.inr ⟨rfl, fun w hw hr hl => ?_⟩⟩
    cases w with
    | nil => exact hne hw
    | cons z w =>
      have := hno _ hw hr hl z rfl
      rw [List.append_nil] at ht
      rw [← ht] at this
      exact this hw.1.1
  | k :: ks, pre, ht, hno => by
    have hkt : k ∈ t := by rw [ht]; simp
    have hk := hT.range k hkt
    have next : (∀ w, Wk es t node w goal → Red w → (∀ y, w.head? = some y → ix y ≠ last) → ∀ y, w.head? = some y → ix y ≠ k) → ∃ r, wloop es rec node last ks = some r ∧ Ans es t goal node last r := by
      intro hk2
      refine wloop_ok hT hp hne hrec ks (pre ++ [k]) (by simp [ht]) ?_
      intro w hw hr hl y hy hm
      rcases List.mem_append.mp hm with hm | hm
      · exact hno w hw hr hl y hy hm
      · exact hk2 w hw hr hl y hy (List.mem_singleton.mp hm)
    unfold wloop
    by_cases c : k = last
    · rw [if_pos c]
      exact next (fun w hw hr hl y hy => by rw [c]; exact hl y hy)
    · rw [if_neg c]
      have hE := hT.forest.1 _ (List.mem_map.mpr ⟨k, hkt, rfl⟩ : ed es k.toNat ∈ pk es t)
      by_cases c2 : (ed es k.toNat).1 ≠ node ∧ (ed es k.toNat).2 ≠ node
      · rw [if_pos c2]
        refine next (fun w hw hr hl y hy e => ?_)
        cases w with
        | nil => cases hy
        | cons z w =>
          obtain rfl : z = y := by simpa using hy
          have hf := hw.2.1
          rcases fr_too (es := es) (z := z) with x | x
          · rw [x.1, e] at hf; exact c2.1 hf
          · rw [x.1, e] at hf; exact c2.2 hf
      · rw [if_neg c2]
        have c3 : (ed es k.toNat).1 = node ∨ (ed es k.toNat).2 = node := by
          by_cases a : (ed es k.toNat).1 = node
          · exact Or.inl a
          · by_cases b : (ed es k.toNat).2 = node
            · exact Or.inr b
            · exact absurd ⟨a, b⟩ c2
        obtain ⟨f1, f2, f3, f4⟩ := num_facts hk.1 c3
        have hr0 := hrec (num es node k) (by rw [f1]; exact hkt) f2 f3 (by rw [f1]; exact c)
        rw [f4, f1] at hr0
        obtain ⟨r, e1, e2⟩ := hr0
        rw [e1, Option.bind_some]
        rcases e2 with ⟨g1, g2, g3, g4⟩ | ⟨g1, g2⟩
        · rw [if_pos g1]
          refine ⟨_, rfl, Or.inl ⟨rfl, ⟨⟨by rw [f1]; exact hkt, f2⟩, f3, by rw [f4]; exact g2⟩, ⟨fun y hy => ?_, g3⟩, fun y hy => ?_⟩⟩
          · rw [f1]; exact fun q => g4 y hy q.symm
          · obtain rfl : num es node k = y := by simpa using hy
            rw [f1]; exact c
        · subst g1
          rw [if_neg (by simp)]
          refine next (fun w hw hr hl y hy e => ?_)
          cases w with
          | nil => cases hy
          | cons z w =>
            obtain rfl : z = y := by simpa using hy
            have q := num_of (es := es) (z := z) hw.1.2 (by rw [e]; exact hE.2.2.2.2)
            rw [hw.2.1, e] at q
            have hz : too es z = nxt es node k := by rw [← q.1, f4]
            refine g2 w (by rw [← hz]; exact hw.2.2) hr.2 (fun y hy => ?_)
            have := hr.1 y hy
            rw [e] at this
            exact fun q => this q.symm
theorem lway_ok {n : Int} {es : List E} {t : List Int} (hT : Tree n es t) {goal : Int} : ∀ (d : Nat) (p : List Int) (node last : Int), Came es t p node last → es.length < p.length + d → ∃ r, lway es t goal d node last = some r ∧ Ans es t goal node last r
  | 0, p, node, last, hp, hd => by have := hp.bound hT; omega
  | d + 1, p, node, last, hp, hd => by
    unfold lway
    by_cases c : node = goal
    · rw [if_pos c]
      exact ⟨_, rfl, Or.inl ⟨rfl, c, trivial, fun y hy => by cases hy⟩⟩
    · rw [if_neg c]
      refine wloop_ok hT hp c (fun z hz h0 hf hn => ?_) t [] rfl (fun w _ _ _ y _ => by simp)
      exact lway_ok hT d (p ++ [z]) (too es z) (ix z) (hp.step hz h0 hf hn) (by rw [List.length_append]; simp only [List.length_cons, List.length_nil]; omega)
/-- the search that calls itself finds the way, if there is one -/
theorem lway_way {n : Int} {es : List E} {t : List Int} (hT : Tree n es t) {u v : Int} {w : List Int} (hw : Wk es t u w v) (hr : Red w) {d : Nat} (hd : es.length < d) : lway es t v d u (-1) = some (w, true) := by
  have hm1 : (-1 : Int) ∉ t := fun h => by have := hT.range _ h; omega
  obtain ⟨r, e, a⟩ := lway_ok hT (goal := v) d [] u (-1) ⟨⟨u, rfl⟩, trivial, Or.inl ⟨rfl, hm1⟩⟩ (by simpa using hd)
  have hl : ∀ y, w.head? = some y → ix y ≠ -1 := by
    intro y hy q
    cases w with
    | nil => cases hy
    | cons z w =>
      obtain rfl : z = y := by simpa using hy
      have := hw.1.1
      rw [q] at this
      exact hm1 this
  rw [e]
  rcases a with ⟨h1, h2, h3, _⟩ | ⟨_, h2⟩
  · rw [way_unique t hT.forest hw hr h2 h3, ← h1]
  · exact absurd hl (h2 w hw hr)
/-! the search with a stack -/
abbrev Br := Int × List Int
def tin (es : List E) (node : Int) (way : List Int) : List Int → List Bool → List Br → List Bool × List Br
  | [], S, st => (S, st)
  | k :: ks, S, st => if (ed es k.toNat).1 ≠ node ∧ (ed es k.toNat).2 ≠ node then tin es node way ks S st else
      if kt S (nxt es node k) = true then tin es node way ks S st else tin es node way ks (S.set (nxt es node k).toNat true) (st ++ [(nxt es node k, way ++ [num es node k])])
def topB (st : List Br) : Br := st.getD (st.length - 1) (0, [])
def twh (es : List E) (t : List Int) (goal : Int) : Nat → List Bool → List Br → Option (List Int)
  | 0, _, _ => none
  | d + 1, S, st => if st.length > 0 then (if (topB st).1 = goal then some (topB st).2 else twh es t goal d (tin es (topB st).1 (topB st).2 t S (st.take (st.length - 1))).1 (tin es (topB st).1 (topB st).2 t S (st.take (st.length - 1))).2) else some []
def unseen (n : Int) (S : List Bool) : Nat := (List.range n.toNat).countP (fun i : Nat => !kt S i)
theorem unseen_set {n : Int} {S : List Bool} {x : Int} (hl : n.toNat ≤ S.length) (h0 : 0 ≤ x) (h1 : x < n) (hx : kt S x = false) : unseen n (S.set x.toNat true) + 1 = unseen n S := by
  unfold unseen
  refine countP_drop _ _ x.toNat _ (by omega) (by rw [show ((x.toNat : Nat) : Int) = x by omega, hx]; rfl) ?_
  intro i hi
  rw [kt_set h0 (by omega) (by omega)]
  by_cases e : (i : Int) = x
  · rw [if_pos e]
    have h2 : (i != x.toNat) = false := by simp; omega
    rw [h2, Bool.and_false]; rfl
  · rw [if_neg e]
    have h2 : (i != x.toNat) = true := by simp; omega
    rw [h2, Bool.and_true]
theorem Wk.last {es : List E} {t : List Int} {y : Int} : ∀ {q : List Int} {u v : Int}, Wk es t u (q ++ [y]) v → too es y = v
  | [], _, _, h => h.2.2
  | _ :: q, _, _, h => Wk.last (q := q) h.2.2
structure WI (n : Int) (es : List E) (t : List Int) (u goal : Int) (S : List Bool) (st : List Br) (cur : Int) : Prop where
  len : n.toNat ≤ S.length
  way : ∀ b ∈ st, (0 ≤ b.1 ∧ b.1 < n) ∧ Wk es t u b.2 b.1 ∧ Red b.2 ∧ kt S b.1 = true ∧ (∀ y, b.2.getLast? = some y → kt S (fr es y) = true)
  cl : ∀ i, 0 ≤ i → i < n → kt S i = true → i ≠ cur → (∀ b ∈ st, b.1 ≠ i) → i ≠ goal ∧ ∀ k ∈ t, (ed es k.toNat).1 = i ∨ (ed es k.toNat).2 = i → kt S (nxt es i k) = true
theorem tin_ok {n : Int} {es : List E} {t : List Int} (hT : Tree n es t) {u goal node : Int} {way : List Int} (hnode : 0 ≤ node ∧ node < n) (hw : Wk es t u way node) (hr : Red way) : ∀ (ks : List Int) (S : List Bool) (st : List Br), (∀ k ∈ ks, k ∈ t) → WI n es t u goal S st node → kt S node = true → (∀ y, way.getLast? = some y → kt S (fr es y) = true) →
    WI n es t u goal (tin es node way ks S st).1 (tin es node way ks S st).2 node ∧ (∀ i, 0 ≤ i → kt S i = true → kt (tin es node way ks S st).1 i = true) ∧ (tin es node way ks S st).2.length + unseen n (tin es node way ks S st).1 = st.length + unseen n S ∧ (∀ k ∈ ks, (ed es k.toNat).1 = node ∨ (ed es k.toNat).2 = node → kt (tin es node way ks S st).1 (nxt es node k) = true) ∧ (tin es node way ks S st).1.length = S.length
  | [], S, st, _, h, _, _ => ⟨h, (fun _ _ x => x), rfl, (fun k hk => by cases hk), rfl⟩
  | k :: ks, S, st, hks, h, hn, hy => by
    have hkt := hks k (by simp)
    have hk := hT.range k hkt
    have hE := hT.forest.1 _ (List.mem_map.mpr ⟨k, hkt, rfl⟩ : ed es k.toNat ∈ pk es t)
    have hks' : ∀ k ∈ ks, k ∈ t := fun k hk => hks k (List.mem_cons_of_mem _ hk)
    unfold tin
    by_cases c2 : (ed es k.toNat).1 ≠ node ∧ (ed es k.toNat).2 ≠ node
    · rw [if_pos c2]
      obtain ⟨r1, r2, r3, r4, r5⟩ := tin_ok hT hnode hw hr ks S st hks' h hn hy
      refine ⟨r1, r2, r3, fun j hj hh => ?_, r5⟩
      rcases List.mem_cons.mp hj with rfl | hj
      · rcases hh with hh | hh
        · exact absurd hh c2.1
        · exact absurd hh c2.2
      · exact r4 j hj hh
    · rw [if_neg c2]
      have c3 : (ed es k.toNat).1 = node ∨ (ed es k.toNat).2 = node := by
        by_cases a : (ed es k.toNat).1 = node
        · exact Or.inl a
        · by_cases b : (ed es k.toNat).2 = node
          · exact Or.inr b
          · exact absurd ⟨a, b⟩ c2
      obtain ⟨f1, f2, f3, f4⟩ := num_facts hk.1 c3
      have hxn : 0 ≤ nxt es node k ∧ nxt es node k < n := by
        unfold nxt; split
        · exact ⟨hE.1, hE.2.1⟩
        · exact ⟨hE.2.2.1, hE.2.2.2.1⟩
      by_cases c4 : kt S (nxt es node k) = true
      · rw [if_pos c4]
        obtain ⟨r1, r2, r3, r4, r5⟩ := tin_ok hT hnode hw hr ks S st hks' h hn hy
        refine ⟨r1, r2, r3, fun j hj hh => ?_, r5⟩
        rcases List.mem_cons.mp hj with rfl | hj
        · exact r2 _ hxn.1 c4
        · exact r4 j hj hh
      · rw [if_neg c4]
        have c5 : kt S (nxt es node k) = false := by simpa using c4
        have hlen := h.len
        have hset : ∀ i, 0 ≤ i → kt (S.set (nxt es node k).toNat true) i = if i = nxt es node k then true else kt S i := fun i h0 => kt_set hxn.1 (by omega) h0
        have up : ∀ i, 0 ≤ i → kt S i = true → kt (S.set (nxt es node k).toNat true) i = true := by
          intro i h0 hi
          rw [hset i h0]; split
          · rfl
          · exact hi
        have frn : ∀ z, ix z ∈ t → 0 ≤ fr es z := by
          intro z hz
          have := hT.forest.1 _ (mem_pk (es := es) hz)
          rcases fr_too (es := es) (z := z) with x | x <;> rw [x.1] <;> omega
        have hred : Red (way ++ [num es node k]) := by
          refine hr.snoc (fun y hyl e => ?_)
          have s := hy y hyl
          -- the last run again: its other end has been seen
          have hm : y ∈ way := List.mem_of_getLast? hyl
          have hz := (hw.nodes y hm).1
          have hto : too es y = node := by
            obtain ⟨q, hq⟩ := List.getLast?_eq_some_iff.mp hyl
            rw [hq] at hw
            exact hw.last
          rw [f1] at e
          have : fr es y = nxt es node k := by
            have q := hE.2.2.2.2
            unfold nxt
            rcases fr_too (es := es) (z := y) with x | x
            · rw [x.2, e] at hto
              rw [if_pos hto, x.1, e]
            · rw [x.2, e] at hto
              rw [if_neg (fun z => q (by rw [hto, z])), x.1, e]
          rw [this, c5] at s
          cases s
        have hW : WI n es t u goal (S.set (nxt es node k).toNat true) (st ++ [(nxt es node k, way ++ [num es node k])]) node := by
          refine ⟨by rw [List.length_set]; exact hlen, ?_, ?_⟩
          · intro b hb
            rcases List.mem_append.mp hb with hb | hb
            · have z := h.way b hb
              refine ⟨z.1, z.2.1, z.2.2.1, up _ z.1.1 z.2.2.2.1, fun y hyl => up _ (frn y ?_) (z.2.2.2.2 y hyl)⟩
              exact (z.2.1.nodes y (List.mem_of_getLast? hyl)).1
            · obtain rfl := List.mem_singleton.mp hb
              refine ⟨hxn, hw.append (show Wk es t node [num es node k] (nxt es node k) from ⟨⟨by rw [f1]; exact hkt, f2⟩, f3, f4⟩), hred, by rw [hset _ hxn.1, if_pos rfl], fun y hyl => ?_⟩
              have : num es node k = y := by simpa using hyl
              rw [← this, f3]
              exact up _ hnode.1 hn
          · intro i h0 h1 hs hcur hst
            have hix : i ≠ nxt es node k := fun e => hst (nxt es node k, way ++ [num es node k]) (by simp) e.symm
            rw [hset i h0, if_neg hix] at hs
            have z := h.cl i h0 h1 hs hcur (fun b hb => hst b (List.mem_append_left _ hb))
            refine ⟨z.1, fun j hj hh => ?_⟩
            have hEj := hT.forest.1 _ (List.mem_map.mpr ⟨j, hj, rfl⟩ : ed es j.toNat ∈ pk es t)
            refine up _ ?_ (z.2 j hj hh)
            unfold nxt; split
            · exact hEj.1
            · exact hEj.2.2.1
        obtain ⟨r1, r2, r3, r4, r5⟩ := tin_ok hT hnode hw hr ks _ _ hks' hW (up _ hnode.1 hn) (fun y hyl => up _ (frn y (hw.nodes y (List.mem_of_getLast? hyl)).1) (hy y hyl))
        have hu := unseen_set hlen hxn.1 hxn.2 c5
        refine ⟨r1, fun i h0 hi => r2 i h0 (up i h0 hi), ?_, fun j hj hh => ?_, by rw [r5, List.length_set]⟩
        · rw [r3, List.length_append]
          simp only [List.length_cons, List.length_nil]
          omega
        · rcases List.mem_cons.mp hj with rfl | hj
          · exact r2 _ hxn.1 (by rw [hset _ hxn.1, if_pos rfl])
          · exact r4 j hj hh
theorem top_last {st : List Br} (h : 0 < st.length) : st = st.take (st.length - 1) ++ [topB st] := by
  unfold topB
  rw [List.getD_eq_getElem?_getD, List.getElem?_eq_getElem (by omega), Option.getD_some]
  conv => lhs; rw [← List.take_append_drop (st.length - 1) st]
  congr 1
  rw [List.drop_eq_getElem_cons (by omega), List.drop_eq_nil_of_le (by omega)]
theorem twh_ok {n : Int} {es : List E} {t : List Int} (hT : Tree n es t) (w : Whole n (pk es t)) {u goal : Int} (hu : 0 ≤ u ∧ u < n) (hg : 0 ≤ goal ∧ goal < n) : ∀ (d : Nat) (S : List Bool) (st : List Br), WI n es t u goal S st (-1) → kt S u = true → st.length + unseen n S < d →
    ∃ p, twh es t goal d S st = some p ∧ Wk es t u p goal ∧ Red p
  | 0, S, st, _, _, hd => by omega
  | d + 1, S, st, h, hus, hd => by
    unfold twh
    by_cases c : st.length > 0
    · rw [if_pos c]
      have hst := top_last c
      generalize topB st = b at *
      generalize hq : st.take (st.length - 1) = q at *
      have hl : st.length = q.length + 1 := by rw [hst]; simp
      have z := h.way b (by rw [hst]; simp)
      by_cases c2 : b.1 = goal
      · rw [if_pos c2]
        exact ⟨b.2, rfl, by rw [← c2]; exact z.2.1, z.2.2.1⟩
      · rw [if_neg c2]
        have hW : WI n es t u goal S q b.1 := by
          refine ⟨h.len, fun x hx => h.way x (by rw [hst]; simp [hx]), fun i h0 h1 hs hc hb => ?_⟩
          refine h.cl i h0 h1 hs (by omega) (fun x hx => ?_)
          rw [hst] at hx
          rcases List.mem_append.mp hx with hx | hx
          · exact hb x hx
          · rw [List.mem_singleton.mp hx]; exact fun e => hc e.symm
        obtain ⟨r1, r2, r3, r4, r5⟩ := tin_ok hT z.1 z.2.1 z.2.2.1 t S q (fun _ h => h) hW z.2.2.2.1 z.2.2.2.2
        refine twh_ok hT w hu hg d _ _ ⟨r1.len, r1.way, fun i h0 h1 hs _ hb => ?_⟩ (r2 u hu.1 hus) (by omega)
        by_cases e : i = b.1
        · rw [e]
          exact ⟨c2, r4⟩
        · exact r1.cl i h0 h1 hs e hb
    · exfalso
      obtain rfl : st = [] := List.length_eq_zero_iff.mp (by omega)
      have key : ∀ i, 0 ≤ i → i < n → kt S i = true → i ≠ goal ∧ ∀ k ∈ t, (ed es k.toNat).1 = i ∨ (ed es k.toNat).2 = i → kt S (nxt es i k) = true := fun i h0 h1 hs => h.cl i h0 h1 hs (by omega) (fun b hb => by cases hb)
      have con := w.const (fun i => kt S i) (by
        intro e he
        obtain ⟨k, hk, rfl⟩ := List.mem_map.mp he
        have hE := hT.forest.1 _ he
        have e1 : kt S (ed es k.toNat).1 = true → kt S (ed es k.toNat).2 = true := by
          intro hs
          have := (key _ hE.1 hE.2.1 hs).2 k hk (Or.inl rfl)
          unfold nxt at this
          rwa [if_neg (fun q => hE.2.2.2.2 q.symm)] at this
        have e2 : kt S (ed es k.toNat).2 = true → kt S (ed es k.toNat).1 = true := by
          intro hs
          have := (key _ hE.2.2.1 hE.2.2.2.1 hs).2 k hk (Or.inr rfl)
          unfold nxt at this
          rwa [if_pos rfl] at this
        cases a : kt S (ed es k.toNat).1 <;> cases b : kt S (ed es k.toNat).2 <;> simp_all)
      have a := con u hu.1 hu.2
      have b := con goal hg.1 hg.2
      exact (key goal hg.1 hg.2 (by rw [b, ← a]; exact hus)).1 rfl
/-- the search with a stack finds a way, and so the only one -/
theorem twh_way {n : Int} {es : List E} {t : List Int} (hT : Tree n es t) (w : Whole n (pk es t)) {u goal : Int} (hu : 0 ≤ u ∧ u < n) (hg : 0 ≤ goal ∧ goal < n) {S : List Bool} (hS : n.toNat ≤ S.length) (h0 : ∀ i, 0 ≤ i → kt S i = decide (i = u)) {d : Nat} (hd : n.toNat + 1 < d) :
    ∃ p, twh es t goal d S [(u, [])] = some p ∧ Wk es t u p goal ∧ Red p := by
  have hle : unseen n S ≤ n.toNat := by
    unfold unseen
    have := List.countP_le_length (p := fun i : Nat => !kt S i) (l := List.range n.toNat)
    rwa [List.length_range] at this
  refine twh_ok hT w hu hg d S [(u, [])] ⟨hS, ?_, ?_⟩ (by rw [h0 u hu.1]; simp) (by simp only [List.length_cons, List.length_nil]; omega)
  · intro b hb
    obtain rfl := List.mem_singleton.mp hb
    exact ⟨hu, rfl, trivial, by rw [h0 u hu.1]; simp, fun y hy => by cases hy⟩
  · intro i i0 _ hs _ hb
    rw [h0 i i0] at hs
    simp only [decide_eq_true_eq] at hs
    exact absurd hs.symm (hb (u, []) (by simp))
end Go.Proofs.Ytbnndmkkmceenaa.Gr
