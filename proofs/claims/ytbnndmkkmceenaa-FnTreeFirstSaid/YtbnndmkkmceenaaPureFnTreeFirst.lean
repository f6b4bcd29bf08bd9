/- The law FnTreeFirst of the printed functions: no index of the first tree can be less. -/
import Derived.Test.YtbnndmkkmceenaaNt
import Derived.Test.YtbnndmkkmceenaaNo
import Derived.Test.YtbnndmkkmceenaaNs
import Derived.Test.YtbnndmkkmceenaaP0x39
import Derived.Test.YtbnndmkkmceenaaP1x10
namespace Go.Proofs.Ytbnndmkkmceenaa.Pure
set_option linter.unusedVariables false
set_option linter.unusedSimpArgs false
open Go.RowKit Go.Proofs.Ytbnndmkkmceenaa.P0 Go.Proofs.Ytbnndmkkmceenaa.P1 Go.Proofs.YtbnndmkkmceenaaW.PrintWords Go.Proofs.YtbnndmkkmceenaaW.PrintLast
theorem tot_DrawTreeFirst (l : List Int) (hb : Bytes l) : Tot 300 (fun k => spec_DrawTreeFirst.f k l) (fun r => r.2.length ≤ 100) := by
  unfold spec_DrawTreeFirst.f
  obtain ⟨s, hs, hl, hB⟩ := open_eq l
  have hS := hB hb
  rw [hs]
  simp only [Option.bind_some]
  refine Tot.bind ((tot_l91Net hS hl 0 6 (by omega) (by omega) (by omega)).up (by omega)) ?_
  rintro ⟨n, r, p⟩ hx
  unfold NetOk at hx
  dsimp only at *
  exact Tot.some (by dsimp only; omega)
theorem less_not_tree {n : Int} {l : List Rn} {t : List Int} (ht : Gr.first (es l) = t) (hw : netWhole n l = true) {i j : Int} (i0 : 0 ≤ i) (i1 : i < t.length) (j0 : 0 ≤ j) (j1 : j < rd t i) : treeIs n l ((t.take i.toNat ++ [j]) ++ t.drop (i + 1).toNat) = false := by
  rw [Bool.eq_false_iff]
  intro h
  rw [List.append_assoc, List.singleton_append] at h
  have h := treeIs_iff.mp h
  have w := netWhole_iff.mp hw
  have v := valid_iff.mp w.1
  have he := ok_ends v.2.2.2
  obtain ⟨a1, a2, a3⟩ := Gr.asc_append h.2.2.1
  have hs : Gr.first (es l) = t.take i.toNat ++ rd t i :: t.drop (i + 1).toNat := by
    rw [ht, ← drop_int i0 i1, List.take_append_drop]
  have ej : ((j.toNat : Nat) : Int) = j := by omega
  refine Gr.first_least he (by omega) w.2 hs (k := j.toNat) (by omega) (fun x hx => ?_) ?_ ?_
  · rw [ej]; exact a2 x hx j (by simp)
  · rw [ej]
    exact he.sub (Gr.pk_mem (last := -1) (by omega) (by rw [es_length]; exact h.2.2.1))
  · rw [ej]; exact h.2.2.2
theorem first_l1 {n : Int} {l : List Rn} {t : List Int} (ht : Gr.first (es l) = t) (hw : netWhole n l = true) (htl : t.length ≤ 12) (hb : ∀ x ∈ t, x ≤ 100) {i : Int} (i0 : 0 ≤ i) (i1 : i < t.length) (C : Nat) (H : ∀ k, C ≤ k → laws_FnTreeFirst.l0 k n l t (i + 1) = some true) : ∀ (d k : Nat) (j : Int), 0 ≤ j → rd t i - j ≤ d → C + 2 * d + 1300 ≤ k → laws_FnTreeFirst.l1 k n l t i j = some true := by
  intro d
  induction d with
  | zero =>
    intro k j h0 h1 h2
    obtain ⟨k, rfl⟩ : ∃ m, k = m + 1 := ⟨k - 1, by omega⟩
    simp only [laws_FnTreeFirst.l1]
    rw [if_pos i0, if_pos i1, if_neg (by omega), w64 _ (by omega) (by omega)]
    exact H k (by omega)
  | succ d ih =>
    intro k j h0 h1 h2
    obtain ⟨k, rfl⟩ : ∃ m, k = m + 1 := ⟨k - 1, by omega⟩
    have v := valid_iff.mp (netWhole_iff.mp hw).1
    simp only [laws_FnTreeFirst.l1]
    rw [if_pos i0, if_pos i1]
    by_cases c : j < rd t i
    · have hj := hb _ (int_mem i0 i1)
      have hj3 : ∀ b, laws_FnTreeFirst.j3 k n l t i j ([] ++ t.take i.toNat) b = some true := by
        intro b
        obtain ⟨k, rfl⟩ : ∃ m, k = m + 1 := ⟨k - 1, by omega⟩
        simp only [laws_FnTreeFirst.j3, List.nil_append, Option.bind_some]
        have hnext := ih k (j + 1) (by omega) (by omega) (by omega)
        rw [w64 (j + 1) (by omega) (by omega), w64 (i + 1) (by omega) (by omega)]
        cases b with
        | true => rw [if_pos rfl]; exact hnext
        | false =>
          rw [if_neg (by decide), if_pos (by simp; omega), if_pos (by omega), if_pos (by omega), if_pos (by simp; omega), iTreeIs_eq _ _ _ (by omega) (by simp; omega) k (by omega), Option.bind_some, less_not_tree ht hw i0 i1 h0 c]
          exact hnext
      rw [if_pos c]
      simp only [Option.bind_some]
      rw [if_pos (by omega), if_pos (by simp; omega)]
      by_cases z : i > 0
      · rw [if_pos z, w64 (i - 1) (by omega) (by omega), if_pos (by omega), if_pos (by omega)]
        exact hj3 _
      · rw [if_neg z]
        exact hj3 _
    · rw [if_neg c, w64 _ (by omega) (by omega)]
      exact H k (by omega)
theorem first_l0 {n : Int} {l : List Rn} {t : List Int} (ht : Gr.first (es l) = t) (hw : netWhole n l = true) (htl : t.length ≤ 12) (hb : ∀ x ∈ t, x ≤ 100) (hT : treeIs n l t = true) : ∀ (d k : Nat) (i : Int), 0 ≤ i → i + d = t.length → d * 2000 + 2000 ≤ k → laws_FnTreeFirst.l0 k n l t i = some true := by
  intro d
  induction d with
  | zero =>
    intro k i h0 h1 h2
    have v := valid_iff.mp (netWhole_iff.mp hw).1
    obtain ⟨k, rfl⟩ : ∃ m, k = m + 1 := ⟨k - 1, by omega⟩
    simp only [laws_FnTreeFirst.l0]
    rw [if_neg (by omega), iTreeIs_eq _ _ _ (by omega) (by omega) k (by omega), hT]
    rfl
  | succ d ih =>
    intro k i h0 h1 h2
    obtain ⟨k, rfl⟩ : ∃ m, k = m + 1 := ⟨k - 1, by omega⟩
    have hj := hb _ (int_mem h0 (show i < t.length by omega))
    simp only [laws_FnTreeFirst.l0]
    rw [if_pos (by omega)]
    exact first_l1 ht hw htl hb h0 (by omega) (d * 2000 + 2000) (fun k hk => ih k (i + 1) (by omega) (by omega) hk) 100 k 0 (by omega) (by omega) (by omega)
theorem first_is {n : Int} {l : List Rn} (hw : netWhole n l = true) : treeIs n l (Gr.first (es l)) = true := by
  have w := netWhole_iff.mp hw
  have v := valid_iff.mp w.1
  have he := ok_ends v.2.2.2
  refine treeIs_iff.mpr ⟨w.1, Gr.first_length he (by omega) w.2, ?_, Gr.first_whole he w.2⟩
  have := Gr.first_asc (es l)
  rwa [es_length] at this
theorem FnTreeFirst : ∀ (l0 : List Int), l0.length ≤ maxLen → l0.length * 1 ≤ 140737488351232 → (∀ x ∈ l0, (Lit.int .u8 x).wf = true) → ∃ k, laws_FnTreeFirst.f k l0 = some true := by
  intro l0 _ _ hw
  obtain ⟨⟨n, l⟩, hd, hll⟩ := tot_DrawTreeFirst l0 (Bytes.of_wf hw)
  dsimp only at hll
  refine ⟨100000, ?_⟩
  unfold laws_FnTreeFirst.f
  by_cases hlen : (l0.length : Int) > 1048576
  · rw [if_pos hlen]
  · have hd2 : spec_DrawTreeFirst.f 100000 l0 = some (n, l) := hd _ (by omega)
    have hn := treeFirst_length n l
    rw [if_neg hlen, hd2]
    simp only [Option.bind_some]
    rw [iTreeFirst_eq n l (by omega) _ (by omega), sTreeFirst_eq n l (by omega) _ (by omega)]
    simp only [Option.bind_some, bne_self_eq_false, Bool.false_eq_true, if_false]
    rw [sameInts_eq _ (by omega) _ (by omega)]
    simp only [Option.bind_some, if_true]
    show laws_FnTreeFirst.j0 (99999 + 1) _ _ _ _ _ _ _ = _
    simp only [laws_FnTreeFirst.j0]
    by_cases hb : netWhole n l = true
    · have e : treeFirst n l = (Gr.first (es l), true) := by unfold treeFirst; rw [if_pos hb]
      have v := valid_iff.mp (netWhole_iff.mp hb).1
      rw [e] at hn ⊢
      simp only [Bool.not_true, Bool.false_eq_true, if_false]
      dsimp only at hn
      refine first_l0 rfl hb (by omega) (fun x hx => ?_) (first_is hb) (Gr.first (es l)).length 99999 0 (by omega) (by omega) (by omega)
      have := Gr.asc_mem (Gr.first_asc (es l)) x hx
      rw [es_length] at this
      omega
    · have e : treeFirst n l = ([], false) := by unfold treeFirst; rw [if_neg hb]
      rw [e]
      simp only [Bool.not_false, if_true, beq_self_eq_true]
      rw [sameInts_eq _ (by simp) _ (by simp)]
      rfl
end Go.Proofs.Ytbnndmkkmceenaa.Pure
