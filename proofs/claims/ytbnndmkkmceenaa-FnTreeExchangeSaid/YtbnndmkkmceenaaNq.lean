/- The draws of trees end. -/
import Derived.Test.YtbnndmkkmceenaaNt
import Derived.Test.YtbnndmkkmceenaaNo
import Derived.Test.YtbnndmkkmceenaaP0x41
namespace Go.Proofs.Ytbnndmkkmceenaa.Pure
set_option linter.unusedVariables false
set_option linter.unusedSimpArgs false
open Go.RowKit Go.Proofs.Ytbnndmkkmceenaa.P0 Go.Proofs.Ytbnndmkkmceenaa.P1 Go.Proofs.YtbnndmkkmceenaaW.PrintWords Go.Proofs.YtbnndmkkmceenaaW.PrintLast
abbrev Td := Int × List Rn × List Int
theorem tot_tree_l0 {s : List Int} (hS : Bytes s) (hl : s.length ≤ 2000) (n : Int) (l : List Rn) (hb : l.length ≤ 100) : ∀ (d : Nat) (i : Int) (t : List Int) (p : Int), 0 ≤ i → i + d = l.length → (t.length : Int) ≤ i → 0 ≤ p → p + d ≤ 5000 → Tot (d + 5) (fun k => spec_DrawTreeIs.l0 k n l t i s p) (fun r => r.2.1 = l ∧ r.2.2.length ≤ 100)
  | 0, i, t, p, h0, h1, h2, h3, h4 => by
    refine Tot.succ (fun k => by simp only [spec_DrawTreeIs.l0]; rfl) ?_
    refine Tot.neg (by omega) (Tot.some ⟨rfl, by dsimp only; omega⟩)
  | d + 1, i, t, p, h0, h1, h2, h3, h4 => by
    refine Tot.succ (fun k => by simp only [spec_DrawTreeIs.l0]; rfl) ?_
    refine Tot.pos (by omega) ?_
    refine Tot.bind (Tot.pick hS hl (by omega) (by omega) (by omega) (by omega) (by omega)) ?_
    rintro ⟨v, q⟩ ⟨g0, g1, g2⟩
    dsimp only at *
    rw [w64 (i + 1) (by omega) (by omega)]
    refine Tot.ite (fun c => Tot.pos (by omega) ?_) (fun c => ?_)
    · exact tot_tree_l0 hS hl n l hb d (i + 1) _ q (by omega) (by omega) (by simp; omega) (by omega) (by omega)
    · exact tot_tree_l0 hS hl n l hb d (i + 1) _ q (by omega) (by omega) (by omega) (by omega) (by omega)
theorem tot_tree_j0 {s : List Int} (hS : Bytes s) (hl : s.length ≤ 2000) (n : Int) (l : List Rn) (hb : l.length ≤ 100) (t : List Int) (b : Bool) (ht : b = true → 1 ≤ t.length ∧ t.length ≤ 100) (p : Int) (h0 : 0 ≤ p) (h1 : p ≤ 4000) : Tot 200 (fun k => spec_DrawTreeIs.j0 k n l t b s p) (fun r => r.2.1 = l ∧ r.2.2.length ≤ 100) := by
  refine Tot.up (c := 190 + 1) (Tot.succ (fun k => by simp only [spec_DrawTreeIs.j0]; rfl) ?_) (by omega)
  refine Tot.ite (fun c => ?_) (fun c => (tot_tree_l0 hS hl n l hb l.length 0 [] p (by omega) (by omega) (by simp) (by omega) (by omega)).up (by omega))
  have hlen := ht c
  refine Tot.bind (Tot.pick hS hl (by omega) (by omega) (by omega) (by omega) (by omega)) ?_
  rintro ⟨v, q⟩ ⟨g0, g1, g2⟩
  dsimp only at *
  refine Tot.ite (fun c2 => ?_) (fun c2 => Tot.some ⟨rfl, by dsimp only; omega⟩)
  refine Tot.bind (Tot.pick hS hl (by omega) (by omega) (by omega) (by omega) (by omega)) ?_
  rintro ⟨v2, q2⟩ ⟨g3, g4, g5⟩
  dsimp only at *
  refine Tot.pos (by omega) (Tot.pos (by omega) ?_)
  refine Tot.bind (Tot.pick hS hl (by omega) (by omega) (by omega) (by omega) (by omega)) ?_
  rintro ⟨v3, q3⟩ ⟨g6, g7, g8⟩
  exact Tot.some ⟨rfl, by simp; omega⟩
theorem treeFirst_one {n : Int} {l : List Rn} (h : (treeFirst n l).2 = true) : (((treeFirst n l).1.length : Nat) : Int) = n - 1 ∧ 2 ≤ n := by
  unfold treeFirst at h ⊢
  by_cases hw : netWhole n l = true
  · rw [if_pos hw]
    have w := netWhole_iff.mp hw
    have v := valid_iff.mp w.1
    exact ⟨Gr.first_length (ok_ends v.2.2.2) (by omega) w.2, v.1⟩
  · rw [if_neg hw] at h; cases h
theorem tot_DrawTreeIs (l : List Int) (hb : Bytes l) : Tot 3000 (fun k => spec_DrawTreeIs.f k l) (fun r => r.2.1.length ≤ 100 ∧ r.2.2.length ≤ 100) := by
  unfold spec_DrawTreeIs.f
  obtain ⟨s, hs, hl, hB⟩ := open_eq l
  have hS := hB hb
  rw [hs]
  simp only [Option.bind_some]
  refine Tot.bind ((tot_l91Net hS hl 0 5 (by omega) (by omega) (by omega)).up (by omega)) ?_
  rintro ⟨n, r, p⟩ hx
  unfold NetOk at hx
  dsimp only at *
  refine Tot.bind (Tot.is (fun k hk => sTreeFirst_eq n r (by omega) k (by omega))) ?_
  rintro ⟨t, ok⟩ ht
  have hlen := treeFirst_length n r
  have hone := @treeFirst_one n r
  rw [← ht] at hlen hone
  dsimp only at *
  refine Tot.ite (fun c => ?_) (fun c => ?_)
  · refine Tot.bind (Tot.pick hS hl (by omega) (by omega) (by omega) (by omega) (by omega)) ?_
    rintro ⟨v, q⟩ ⟨g0, g1, g2⟩
    dsimp only at *
    have := hone c
    refine ((tot_tree_j0 hS hl n r (by omega) t _ (fun _ => by omega) q (by omega) (by omega)).up (by omega)).imp (fun x hx => ?_)
    exact ⟨by rw [hx.1]; omega, hx.2⟩
  · refine ((tot_tree_j0 hS hl n r (by omega) t _ (fun z => by cases z) p (by omega) (by omega)).up (by omega)).imp (fun x hx => ?_)
    exact ⟨by rw [hx.1]; omega, hx.2⟩
end Go.Proofs.Ytbnndmkkmceenaa.Pure
