/- The law FnLinked of the printed functions. -/
import Derived.Test.YtbnndmkkmceenaaNw
import Derived.Test.YtbnndmkkmceenaaNo
import Derived.Test.YtbnndmkkmceenaaNs
import Derived.Test.YtbnndmkkmceenaaP0x37
import Derived.Test.YtbnndmkkmceenaaP1x8
namespace Go.Proofs.Ytbnndmkkmceenaa.Pure
set_option linter.unusedVariables false
set_option linter.unusedSimpArgs false
open Go.RowKit Go.Proofs.Ytbnndmkkmceenaa.P0 Go.Proofs.Ytbnndmkkmceenaa.P1 Go.Proofs.YtbnndmkkmceenaaW.PrintWords Go.Proofs.YtbnndmkkmceenaaW.PrintLast
theorem tot_DrawNetLinked (l : List Int) (hb : Bytes l) : Tot 300 (fun k => spec_DrawNetLinked.f k l) (fun r => r.2.length ≤ 100) := by
  unfold spec_DrawNetLinked.f
  obtain ⟨s, hs, hl, hB⟩ := open_eq l
  have hS := hB hb
  rw [hs]
  simp only [Option.bind_some]
  refine Tot.bind ((tot_l91Net hS hl 0 6 (by omega) (by omega) (by omega)).up (by omega)) ?_
  rintro ⟨n, r, p⟩ hx
  unfold NetOk at hx
  dsimp only at *
  refine Tot.ite (fun c => ?_) (fun c => Tot.some (by dsimp only; omega))
  refine Tot.bind (Tot.pick hS hl (by omega) (by omega) (by omega) (by omega) (by omega)) ?_
  rintro ⟨v, q⟩ ⟨g0, g1, g2⟩
  dsimp only at *
  refine Tot.ite (fun c => Tot.pos (by omega) (Tot.some (by dsimp only; rw [List.length_drop]; omega))) (fun c => Tot.some (by dsimp only; omega))
def pre (e : List Gr.E) (i : Nat) : Bool := (List.range i).all (fun i : Nat => Gr.lab e i == 0)
theorem pre_step (e : List Gr.E) {i : Int} (h0 : 0 ≤ i) : pre e (i + 1).toNat = (pre e i.toNat && (Gr.lab e i == 0)) := by
  unfold pre
  rw [show (i + 1).toNat = i.toNat + 1 by omega, List.range_succ, List.all_append]
  simp only [List.all_cons, List.all_nil, Bool.and_true]
  rw [show ((i.toNat : Nat) : Int) = i by omega]
theorem linked_l1_true {n : Int} {l : List Rn} (hv : valid n l = true) : ∀ (k : Nat) (i : Int), 0 ≤ i → i ≤ l.length → l.length + 300 < k + i → laws_FnLinked.l1 k n l (Gr.labs n (es l)) (Gr.wholeB n (es l)) i = some true
  | 0, i, h0, h1, h2 => by have := valid_iff.mp hv; omega
  | k + 1, i, h0, h1, h2 => by
    have v := valid_iff.mp hv
    simp only [laws_FnLinked.l1]
    by_cases c : i < (l.length : Int)
    · have ok := okRun_iff.mp (v.2.2.2 _ (rdR_mem h0 c))
      have hm : ((rd_T36 l i).f0, (rd_T36 l i).f1) ∈ es l := by
        rw [es_eq]; exact List.mem_map.mpr ⟨_, rdR_mem h0 c, rfl⟩
      have hl := Gr.lab_run hm
      rw [if_pos c, if_pos h0, if_pos ok.1.1, if_pos (by rw [Gr.labs_length]; omega), if_pos ok.2.1.1, if_pos (by rw [Gr.labs_length]; omega), rd_gt, rd_gt, Gr.gt_labs _ ok.1.1 ok.1.2, Gr.gt_labs _ ok.2.1.1 ok.2.1.2, if_pos hl, w64 _ (by omega) (by omega)]
      exact linked_l1_true hv k (i + 1) (by omega) (by omega) (by omega)
    · rw [if_neg c, if_pos (by rw [Gr.labs_length]; omega), iNetWhole_eq _ _ (by omega) k (by omega), Option.bind_some]
      unfold netWhole
      rw [hv]
      simp
theorem linked_l0_true {n : Int} {l : List Rn} (hv : valid n l = true) : ∀ (k : Nat) (i : Int), 0 ≤ i → i ≤ n → 400 < k + i → laws_FnLinked.l0 k n l (Gr.labs n (es l)) (pre (es l) i.toNat) i = some true
  | 0, i, h0, h1, h2 => by have := valid_iff.mp hv; omega
  | k + 1, i, h0, h1, h2 => by
    have v := valid_iff.mp hv
    simp only [laws_FnLinked.l0]
    by_cases c : i < n
    · have b := Gr.lab_le (ok_ends v.2.2.2) i h0
      have bb := Gr.lab_lab (es l) i
      have ih := linked_l0_true hv k (i + 1) (by omega) (by omega) (by omega)
      rw [pre_step _ h0] at ih
      have e1 : rd (Gr.labs n (es l)) i = Gr.lab (es l) i := by rw [rd_gt, Gr.gt_labs _ h0 c]
      have e2 : rd (Gr.labs n (es l)) (Gr.lab (es l) i) = Gr.lab (es l) i := by rw [rd_gt, Gr.gt_labs _ b.1 (by omega), bb]
      by_cases p : pre (es l) i.toNat = true
      · rw [if_pos c, e1, e2, if_pos p, if_pos h0, if_pos (by rw [Gr.labs_length]; omega), if_neg (by omega), if_pos b.1, if_pos (by rw [Gr.labs_length]; omega), if_pos rfl, w64 _ (by omega) (by omega)]
        rw [p, Bool.true_and] at ih
        exact ih
      · rw [if_pos c, e1, e2, if_neg p, if_pos h0, if_pos (by rw [Gr.labs_length]; omega), if_neg (by omega), if_pos b.1, if_pos (by rw [Gr.labs_length]; omega), if_pos rfl, w64 _ (by omega) (by omega)]
        have pf : pre (es l) i.toNat = false := by simpa using p
        rw [pf, Bool.false_and] at ih
        exact ih
    · rw [if_neg c, show i = n by omega]
      exact linked_l1_true hv k 0 (by omega) (by omega) (by omega)
theorem FnLinked : ∀ (l0 : List Int), l0.length ≤ maxLen → l0.length * 1 ≤ 140737488351232 → (∀ x ∈ l0, (Lit.int .u8 x).wf = true) → ∃ k, laws_FnLinked.f k l0 = some true := by
  intro l0 _ _ hw
  obtain ⟨⟨n, l⟩, hd, hll⟩ := tot_DrawNetLinked l0 (Bytes.of_wf hw)
  dsimp only at hll
  refine ⟨10000, ?_⟩
  unfold laws_FnLinked.f
  by_cases hlen : (l0.length : Int) > 1048576
  · rw [if_pos hlen]
  · have hd2 : spec_DrawNetLinked.f 10000 l0 = some (n, l) := hd _ (by omega)
    have hk := linked_length n l
    rw [if_neg hlen, hd2]
    simp only [Option.bind_some]
    rw [iNetLinked_eq n l (by omega) _ (by omega), sNetLinked_eq n l (by omega) _ (by omega)]
    simp only [Option.bind_some]
    rw [sameInts_eq _ (by omega) _ (by omega)]
    simp only [Option.bind_some, if_true]
    show laws_FnLinked.j0 (9999 + 1) _ _ _ _ _ = _
    simp only [laws_FnLinked.j0]
    unfold linked
    by_cases hv : valid n l = true
    · have v := valid_iff.mp hv
      rw [if_pos hv, if_neg (by rw [beq_iff_eq, Gr.labs_length]; omega)]
      exact linked_l0_true hv 9999 0 (by omega) (by omega) (by omega)
    · rw [if_neg hv, if_pos (by simp), sameInts_eq _ (by simp) _ (by simp)]
      rfl
end Go.Proofs.Ytbnndmkkmceenaa.Pure
