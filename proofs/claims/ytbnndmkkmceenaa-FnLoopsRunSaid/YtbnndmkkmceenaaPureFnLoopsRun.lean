/- The law FnLoopsRun of the printed functions. -/
import Derived.Test.YtbnndmkkmceenaaPureFnLinked
import Derived.Test.YtbnndmkkmceenaaP0x38
import Derived.Test.YtbnndmkkmceenaaP1x9
namespace Go.Proofs.Ytbnndmkkmceenaa.Pure
set_option linter.unusedVariables false
set_option linter.unusedSimpArgs false
open Go.RowKit Go.Proofs.Ytbnndmkkmceenaa.P0 Go.Proofs.Ytbnndmkkmceenaa.P1 Go.Proofs.YtbnndmkkmceenaaW.PrintWords Go.Proofs.YtbnndmkkmceenaaW.PrintLast
theorem tot_DrawNetLoops (l : List Int) (hb : Bytes l) : Tot 300 (fun k => spec_DrawNetLoops.f k l) (fun r => r.2.length ≤ 100) := by
  unfold spec_DrawNetLoops.f
  refine Tot.bind (tot_DrawNetLinked l hb) ?_
  rintro ⟨n, r⟩ hx
  exact Tot.some hx
theorem FnLoopsRun : ∀ (l0 : List Int), l0.length ≤ maxLen → l0.length * 1 ≤ 140737488351232 → (∀ x ∈ l0, (Lit.int .u8 x).wf = true) → ∃ k, laws_FnLoopsRun.f k l0 = some true := by
  intro l0 _ _ hw
  obtain ⟨⟨n, l⟩, hd, hll⟩ := tot_DrawNetLoops l0 (Bytes.of_wf hw)
  dsimp only at hll
  refine ⟨10000, ?_⟩
  unfold laws_FnLoopsRun.f
  by_cases hlen : (l0.length : Int) > 1048576
  · rw [if_pos hlen]
  · have hd2 : spec_DrawNetLoops.f 10000 l0 = some (n, l) := hd _ (by omega)
    rw [if_neg hlen, hd2]
    simp only [Option.bind_some]
    rw [iNetLoops_eq n l (by omega) _ (by omega), sNetLoops_eq n l (by omega) _ (by omega)]
    simp only [Option.bind_some, if_true]
    show laws_FnLoopsRun.j0 (9999 + 1) _ _ _ _ _ = _
    simp only [laws_FnLoopsRun.j0]
    by_cases c : netLoops n l < 0
    · rw [if_pos (decide_eq_true c)]
      simp
    · rw [if_neg (by simpa using c)]
      have hv : valid n l = true := by
        apply Classical.byContradiction
        intro hv
        apply c
        unfold netLoops
        rw [if_neg hv]; omega
      have v := valid_iff.mp hv
      have he := ok_ends v.2.2.2
      have hw1 : wrap64 ((l.length : Int) - 1) = (l.length : Int) - 1 := w64 _ (by omega) (by omega)
      rw [hw1]
      have el : netLoops n l = (l.length : Int) - n + Gr.comps n (es l) := by unfold netLoops; rw [if_pos hv]
      by_cases z : (l.length : Int) - 1 < 0
      · rw [if_pos z, el]
        have hn : l = [] := List.length_eq_zero_iff.mp (by omega)
        subst hn
        rw [show es [] = [] from rfl, Gr.comps_nil]
        congr 1
        rw [beq_iff_eq]
        simp only [List.length_nil]
        omega
      · have hcomps := Gr.comps_nil n
        rw [if_neg z, if_pos (by omega), if_pos (by omega)]
        generalize hm : ((l.length : Int) - 1) = m at *
        have hsub : ∀ r ∈ l.take m.toNat, okRun n r = true := fun r hr => v.2.2.2 r (List.mem_of_mem_take hr)
        have hv2 : valid n (l.take m.toNat) = true := valid_iff.mpr ⟨v.1, v.2.1, by rw [List.length_take]; omega, hsub⟩
        have hl2 : (l.take m.toNat).length = m.toNat := by rw [List.length_take]; omega
        rw [iNetLinked_eq _ _ (by omega) _ (by omega), Option.bind_some]
        have eL : linked n (l.take m.toNat) = Gr.labs n (es (l.take m.toNat)) := by unfold linked; rw [if_pos hv2]
        rw [eL]
        have ok := okRun_iff.mp (v.2.2.2 _ (rdR_mem (l := l) (i := m) (by omega) (by omega)))
        rw [if_pos (by rw [Gr.labs_length]; omega), if_pos (by omega), if_pos ok.1.1, if_pos (by rw [Gr.labs_length]; omega), if_pos ok.2.1.1, if_pos (by rw [Gr.labs_length]; omega)]
        rw [rd_gt, rd_gt, Gr.gt_labs _ ok.1.1 ok.1.2, Gr.gt_labs _ ok.2.1.1 ok.2.1.2, iNetLoops_eq _ _ (by omega) _ (by omega)]
        have el2 : netLoops n (l.take m.toNat) = m - n + Gr.comps n (es (l.take m.toNat)) := by unfold netLoops; rw [if_pos hv2, hl2]; omega
        rw [el2, el]
        have sp : es l = es (l.take m.toNat) ++ [((rd_T36 l m).f0, (rd_T36 l m).f1)] := by
          have e1 : l = l.take m.toNat ++ [rd_T36 l m] := by
            have e2 := drop_rd (l := l) (i := m) (by omega) (by omega)
            rw [drop_end (l := l) (i := m + 1) (by omega)] at e2
            rw [← e2, List.take_append_drop]
          conv => lhs; rw [e1]
          rw [es_eq, es_eq, List.map_append]; rfl
        have cs := Gr.comps_snoc (n := n) (es := es (l.take m.toNat)) (by rw [← sp]; exact he)
        rw [← sp] at cs
        simp only at cs
        have cb := Gr.comps_append (n := n) (a := []) (b := es l) he
        rw [hcomps, List.nil_append] at cb
        have cc := Gr.comps_append (n := n) (a := []) (b := es (l.take m.toNat)) (ok_ends hsub)
        rw [hcomps, List.nil_append] at cc
        by_cases d : Gr.lab (es (l.take m.toNat)) (rd_T36 l m).f0 = Gr.lab (es (l.take m.toNat)) (rd_T36 l m).f1
        · rw [if_pos d]
          rw [if_pos d] at cs
          simp only [Option.bind_some]
          rw [w64 _ (by omega) (by omega)]
          congr 1
          rw [beq_iff_eq]
          omega
        · rw [if_neg d]
          rw [if_neg d] at cs
          simp only [Option.bind_some]
          congr 1
          rw [beq_iff_eq]
          omega
end Go.Proofs.Ytbnndmkkmceenaa.Pure
