/- The law FnTree of the printed functions: a tree has no loop, is whole, and loses that with any run. -/
import Derived.Test.YtbnndmkkmceenaaNq
import Derived.Test.YtbnndmkkmceenaaP1x11
namespace Go.Proofs.Ytbnndmkkmceenaa.Pure
set_option linter.unusedVariables false
set_option linter.unusedSimpArgs false
open Go.RowKit Go.Proofs.Ytbnndmkkmceenaa.P0 Go.Proofs.Ytbnndmkkmceenaa.P1 Go.Proofs.YtbnndmkkmceenaaW.PrintWords Go.Proofs.YtbnndmkkmceenaaW.PrintLast
theorem pick_next {l : List Rn} {t : List Int} {i : Int} (h0 : 0 ≤ i) (h1 : i < t.length) : pick l (t.take (i + 1).toNat) = pick l (t.take i.toNat) ++ [rd_T36 l (rd t i)] := by
  have e : t[i.toNat]? = some (rd t i) := by
    unfold rd
    rw [List.getD_eq_getElem?_getD, List.getElem?_eq_getElem (by omega), Option.getD_some]
  rw [show (i + 1).toNat = i.toNat + 1 by omega, List.take_add_one, e]
  unfold pick
  rw [List.map_append]
  rfl
theorem tree_parts {n : Int} {l : List Rn} {t : List Int} (hT : treeIs n l t = true) : netLoops n (pick l t) = 0 ∧ netWhole n (pick l t) = true ∧ netWhole n l = true := by
  have h := treeIs_iff.mp hT
  have v := valid_iff.mp h.1
  have hin := asc_in h.2.2.1
  have hp := pick_valid h.1 hin (by omega)
  have vp := valid_iff.mp hp
  have hep := ok_ends vp.2.2.2
  rw [es_pick] at hep
  refine ⟨?_, netWhole_iff.mpr ⟨hp, by rw [es_pick]; exact h.2.2.2⟩, netWhole_iff.mpr ⟨h.1, ?_⟩⟩
  · unfold netLoops
    rw [if_pos hp, pick_length, es_pick, (Gr.whole_iff hep (by omega)).mp h.2.2.2]
    omega
  · exact h.2.2.2.mono (ok_ends v.2.2.2) (Gr.pk_mem (last := -1) (by omega) (by rw [es_length]; exact h.2.2.1))
theorem tree_l0 {n : Int} {l : List Rn} {t : List Int} (hT : treeIs n l t = true) {c : Int} (c0 : 0 ≤ c) (c1 : c < t.length) : ∀ (d k : Nat) (i : Int) (X : List Rn), 0 ≤ i → i + d = t.length → (∀ r ∈ X, okRun n r = true) → (X.length : Int) + (if c < i then 1 else 0) = i → d + 1500 ≤ k → laws_FnTree.l0 k n l t (pick l (t.take i.toNat)) X c i = some true := by
  have h := treeIs_iff.mp hT
  have v := valid_iff.mp h.1
  have hin := asc_in h.2.2.1
  intro d
  induction d with
  | zero =>
    intro k i X h0 h1 hX hl hk
    obtain ⟨k, rfl⟩ : ∃ m, k = m + 1 := ⟨k - 1, by omega⟩
    simp only [laws_FnTree.l0]
    rw [if_pos (by omega)] at hl
    have tp := tree_parts hT
    rw [if_neg (by omega), show i.toNat = t.length by omega, List.take_length, iNetLoops_eq _ _ (by rw [pick_length]; omega) k (by rw [pick_length]; omega), iNetWhole_eq _ _ (by rw [pick_length]; omega) k (by rw [pick_length]; omega), iNetWhole_eq _ _ (by omega) k (by omega), iNetWhole_eq _ _ (by omega) k (by omega)]
    simp only [Option.bind_some]
    rw [if_pos tp.1, if_pos tp.2.1, if_pos tp.2.2]
    congr 1
    rw [Bool.not_eq_true', Bool.eq_false_iff]
    intro hw
    have w := (netWhole_iff.mp hw).2
    exact Gr.few_runs (ok_ends hX) (by omega) (by rw [es_length]; omega) w
  | succ d ih =>
    intro k i X h0 h1 hX hl hk
    obtain ⟨k, rfl⟩ : ∃ m, k = m + 1 := ⟨k - 1, by omega⟩
    have hm := hin _ (int_mem h0 (show i < t.length by omega))
    have pn := pick_next (l := l) (t := t) h0 (by omega)
    have pl : (pick l (t.take i.toNat)).length ≤ 12 := by rw [pick_length, List.length_take]; omega
    have hXl : X.length ≤ 12 := by split at hl <;> omega
    simp only [laws_FnTree.l0]
    rw [if_pos (by omega), if_pos h0, if_pos hm.1, if_pos hm.2, if_pos (by omega), w64 (i + 1) (by omega) (by omega), Option.bind_some]
    by_cases e : i = c
    · rw [if_pos e]
      have := ih k (i + 1) X (by omega) (by omega) hX (by rw [if_pos (by omega)]; rw [if_neg (by omega)] at hl; omega) (by omega)
      rw [pn] at this
      exact this
    · rw [if_neg e, if_pos (by omega)]
      have := ih k (i + 1) (X ++ [rd_T36 l (rd t i)]) (by omega) (by omega) (fun r hr => by
        rcases List.mem_append.mp hr with hr | hr
        · exact hX r hr
        · rw [List.mem_singleton] at hr; rw [hr]; exact v.2.2.2 _ (rdR_mem hm.1 hm.2)) (by
        rw [List.length_append, List.length_singleton]
        by_cases q : c < i
        · rw [if_pos q] at hl; rw [if_pos (by omega)]; omega
        · rw [if_neg q] at hl; rw [if_neg (by omega)]; omega) (by omega)
      rw [pn] at this
      exact this
theorem FnTree : ∀ (l0 : List Int) (l1 : List Int), l0.length ≤ maxLen → l0.length * 1 ≤ 140737488351232 → (∀ x ∈ l0, (Lit.int .u8 x).wf = true) → l1.length ≤ maxLen → l1.length * 1 ≤ 140737488351232 → (∀ x ∈ l1, (Lit.int .u8 x).wf = true) → ∃ k, laws_FnTree.f k l0 l1 = some true := by
  intro l0 l1 _ _ hw _ _ _
  obtain ⟨⟨n, l, t⟩, hd, hl, ht⟩ := tot_DrawTreeIs l0 (Bytes.of_wf hw)
  dsimp only at hl ht
  refine ⟨100000 + 1, ?_⟩
  unfold laws_FnTree.f
  have j0 : ∀ b, laws_FnTree.j0 (100000 + 1) l0 l1 b = some true := by
    intro b
    simp only [laws_FnTree.j0]
    cases b with
    | true => rfl
    | false =>
      have hd2 : spec_DrawTreeIs.f 100000 l0 = some (n, l, t) := hd _ (by omega)
      rw [if_neg (by decide), hd2]
      simp only [Option.bind_some]
      rw [iTreeIs_eq n l t (by omega) (by omega) _ (by omega), sTreeIs_eq n l t (by omega) (by omega) _ (by omega)]
      simp only [Option.bind_some, bne_self_eq_false, Bool.false_eq_true, if_false]
      show laws_FnTree.j1 (99999 + 1) _ _ _ _ _ _ _ = _
      simp only [laws_FnTree.j1]
      cases hb : treeIs n l t with
      | false => simp
      | true =>
        have h := treeIs_iff.mp hb
        have v := valid_iff.mp h.1
        rw [if_neg (by decide), if_neg (by omega)]
        have m0 := Int.emod_nonneg (l1.length : Int) (show (t.length : Int) ≠ 0 by omega)
        have m1 := Int.emod_lt_of_pos (l1.length : Int) (show (0 : Int) < t.length by omega)
        have := tree_l0 hb m0 m1 t.length 99999 0 [] (by omega) (by omega) (fun r hr => by cases hr) (by rw [if_neg (by omega)]; rfl) (by omega)
        exact this
  by_cases c : (l0.length : Int) > 1048576
  · rw [if_pos c]; exact j0 _
  · rw [if_neg c]; exact j0 _
end Go.Proofs.Ytbnndmkkmceenaa.Pure
