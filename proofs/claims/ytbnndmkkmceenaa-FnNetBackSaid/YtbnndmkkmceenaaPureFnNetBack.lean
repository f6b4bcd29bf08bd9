/- The law FnNetBack of the printed functions: a run turned. -/
import Derived.Test.YtbnndmkkmceenaaNb
import Derived.Test.YtbnndmkkmceenaaNw
import Derived.Test.YtbnndmkkmceenaaNs
import Derived.Test.YtbnndmkkmceenaaNg
import Derived.Test.YtbnndmkkmceenaaP0x40
import Derived.Test.YtbnndmkkmceenaaP1x13
namespace Go.Proofs.Ytbnndmkkmceenaa.Pure
set_option linter.unusedVariables false
set_option linter.unusedSimpArgs false
open Go.RowKit Go.Proofs.Ytbnndmkkmceenaa.P0 Go.Proofs.Ytbnndmkkmceenaa.P1 Go.Proofs.YtbnndmkkmceenaaW.PrintWords Go.Proofs.YtbnndmkkmceenaaW.PrintLast
theorem tot_DrawNetBack (l : List Int) (hb : Bytes l) : Tot 300 (fun k => spec_DrawNetBack.f k l) (fun r => r.2.1.length ≤ 100) := by
  unfold spec_DrawNetBack.f
  obtain ⟨s, hs, hl, hB⟩ := open_eq l
  have hS := hB hb
  rw [hs]
  simp only [Option.bind_some]
  refine Tot.bind ((tot_l91Net hS hl 0 6 (by omega) (by omega) (by omega)).up (by omega)) ?_
  rintro ⟨n, r, p⟩ hx
  unfold NetOk at hx
  dsimp only at *
  refine Tot.bind ((tot_l91Index hS hl p r.length (by omega) (by omega) (by omega)).up (by omega)) ?_
  rintro ⟨a, q⟩ _
  exact Tot.some (by dsimp only; omega)
theorem turn_ok {n : Int} {r : Rn} (h : okRun n r = true) : okRun n (turn r) = true := by
  have ok := okRun_iff.mp h
  refine okRun_iff.mpr ⟨ok.2.1, ok.1, fun z => ok.2.2.1 z.symm, ?_, ok.2.2.2.2⟩
  show -100000 ≤ -r.f2 ∧ -r.f2 ≤ 100000
  omega
theorem turn_turn (r : Rn) : turn (turn r) = r := by
  unfold turn
  simp
theorem set_ok {n : Int} {l : List Rn} (hr : ∀ r ∈ l, okRun n r = true) {x : Rn} (hx : okRun n x = true) (i : Nat) : ∀ r ∈ l.set i x, okRun n r = true := by
  intro r hm
  rcases List.mem_or_eq_of_mem_set hm with hm | hm
  · exact hr r hm
  · rw [hm]; exact hx
theorem rdR_set {l : List Rn} {i : Int} (h0 : 0 ≤ i) (h1 : i < l.length) (v : Rn) : rd_T36 (l.set i.toNat v) i = v := by
  unfold rd_T36
  rw [List.getD_eq_getElem?_getD, List.getElem?_set, if_pos rfl, if_pos (by omega)]; rfl
theorem set_self {l : List Rn} {i : Int} (h0 : 0 ≤ i) (h1 : i < l.length) : l.set i.toNat (rd_T36 l i) = l := by
  unfold rd_T36
  rw [List.getD_eq_getElem?_getD, List.getElem?_eq_getElem (by omega), Option.getD_some]
  exact List.set_getElem_self (by omega)
theorem netBack_two {n : Int} {l : List Rn} {a : Int} (hv : valid n l = true) (h0 : 0 ≤ a) (h1 : a < l.length) : valid n (l.set a.toNat (turn (rd_T36 l a))) = true ∧ netBack n (l.set a.toNat (turn (rd_T36 l a))) a = (l, true) := by
  have v := valid_iff.mp hv
  have hv2 : valid n (l.set a.toNat (turn (rd_T36 l a))) = true := valid_iff.mpr ⟨v.1, v.2.1, by rw [List.length_set]; exact v.2.2.1, set_ok v.2.2.2 (turn_ok (v.2.2.2 _ (rdR_mem h0 h1))) _⟩
  refine ⟨hv2, ?_⟩
  unfold netBack
  rw [if_pos ⟨hv2, h0, by rw [List.length_set]; exact h1⟩, rdR_set h0 h1, turn_turn, List.set_set, set_self h0 h1]
theorem set_map_es {l : List Rn} {i : Int} (h0 : 0 ≤ i) (h1 : i < l.length) : ∀ e ∈ es (l.set i.toNat (turn (rd_T36 l i))), e ∈ es l ∨ (e.2, e.1) ∈ es l := by
  intro e he
  rw [es_eq] at he
  obtain ⟨r, hr, rfl⟩ := List.mem_map.mp he
  rw [es_eq]
  rcases List.mem_or_eq_of_mem_set hr with hr | hr
  · left; exact List.mem_map.mpr ⟨r, hr, rfl⟩
  · right; rw [hr]; exact List.mem_map.mpr ⟨_, rdR_mem h0 h1, rfl⟩
theorem turned_lab {n : Int} {l : List Rn} {a : Int} (hv : valid n l = true) (h0 : 0 ≤ a) (h1 : a < l.length) : ∀ i, 0 ≤ i → Gr.lab (es (l.set a.toNat (turn (rd_T36 l a)))) i = Gr.lab (es l) i := by
  have v := valid_iff.mp hv
  refine Gr.lab_turn (ok_ends v.2.2.2) (set_map_es h0 h1) ?_
  have h2 := netBack_two hv h0 h1
  have := set_map_es (l := l.set a.toNat (turn (rd_T36 l a))) h0 (by rw [List.length_set]; exact h1)
  rw [rdR_set h0 h1, turn_turn, List.set_set, set_self h0 h1] at this
  exact this
theorem FnNetBack : ∀ (l0 : List Int) (l1 : List Int), l0.length ≤ maxLen → l0.length * 1 ≤ 140737488351232 → (∀ x ∈ l0, (Lit.int .u8 x).wf = true) → l1.length ≤ maxLen → l1.length * 1 ≤ 140737488351232 → (∀ x ∈ l1, (Lit.int .u8 x).wf = true) → ∃ k, laws_FnNetBack.f k l0 l1 = some true := by
  intro l0 l1 _ _ hw _ _ _
  obtain ⟨⟨n, l, a⟩, hd, hl⟩ := tot_DrawNetBack l0 (Bytes.of_wf hw)
  dsimp only at hl
  refine ⟨100000 + 1, ?_⟩
  unfold laws_FnNetBack.f
  have j0 : ∀ b, laws_FnNetBack.j0 (100000 + 1) l0 l1 b = some true := by
    intro b
    simp only [laws_FnNetBack.j0]
    cases b with
    | true => rfl
    | false =>
      have hd2 : spec_DrawNetBack.f 100000 l0 = some (n, l, a) := hd _ (by omega)
      have hnl := netBack_length n l a
      rw [if_neg (by decide), hd2]
      simp only [Option.bind_some]
      rw [iNetBack_eq n l a (by omega) _ (by omega), sNetBack_eq n l a (by omega) _ (by omega)]
      simp only [Option.bind_some, bne_self_eq_false, Bool.false_eq_true, if_false]
      rw [sameRuns_eq _ (by omega) _ (by omega)]
      simp only [Option.bind_some, if_true]
      show laws_FnNetBack.j1 (99999 + 1) _ _ _ _ _ _ _ _ _ = _
      simp only [laws_FnNetBack.j1]
      by_cases hc : valid n l = true ∧ 0 ≤ a ∧ a < l.length
      · have e : netBack n l a = (l.set a.toNat (turn (rd_T36 l a)), true) := by unfold netBack; rw [if_pos hc]
        have v := valid_iff.mp hc.1
        have t2 := netBack_two hc.1 hc.2.1 hc.2.2
        obtain ⟨h, hs, hh⟩ := tot_some (n := n) (m := (l1.length : Int)) (by omega) (by omega) (by omega)
        have hs2 : laws_some.f 99999 n (l1.length : Int) = some h := hs _ (by omega)
        have hfv := fitR_valid hc.1 hh
        have hfl := fitR_length h l
        rw [e]
        simp only [Bool.not_true, Bool.false_eq_true, if_false]
        rw [iNetBack_eq n _ a (by rw [List.length_set]; omega) _ (by rw [List.length_set]; omega), t2.2, hs2]
        simp only [Option.bind_some]
        rw [fit_eq v.2.2.2 (by omega) hh _ (by omega)]
        simp only [Option.bind_some]
        have ef : netBack n (fitR h l) a = ((fitR h l).set a.toNat (turn (rd_T36 (fitR h l) a)), true) := by unfold netBack; rw [if_pos ⟨hfv, hc.2.1, by omega⟩]
        rw [iNetBack_eq n (fitR h l) a (by omega) _ (by omega), ef]
        simp only [Option.bind_some, if_true]
        rw [sameRuns_eq l (by omega) _ (by omega)]
        simp only [Option.bind_some, if_true]
        have tl := turned_lab hc.1 hc.2.1 hc.2.2
        have el : linked n (l.set a.toNat (turn (rd_T36 l a))) = linked n l := by
          unfold linked
          rw [if_pos t2.1, if_pos hc.1]
          unfold Gr.labs
          apply List.map_congr_left
          intro i hi
          exact tl i (by omega)
        have ec : netLoops n (l.set a.toNat (turn (rd_T36 l a))) = netLoops n l := by
          unfold netLoops
          rw [if_pos t2.1, if_pos hc.1, List.length_set]
          unfold Gr.comps
          congr 2
          apply List.countP_congr
          intro i hi
          rw [tl i (by omega)]
        rw [iNetLinked_eq n _ (by rw [List.length_set]; omega) _ (by rw [List.length_set]; omega), iNetLinked_eq n l (by omega) _ (by omega), el]
        simp only [Option.bind_some]
        have kl := linked_length n l
        rw [sameInts_eq _ (by omega) _ (by omega), iNetLoops_eq n _ (by rw [List.length_set]; omega) _ (by rw [List.length_set]; omega), iNetLoops_eq n l (by omega) _ (by omega), ec]
        simp only [Option.bind_some, if_true]
        have hhl := hh.1
        rw [iNetFits_eq n _ h (by rw [List.length_set]; omega) (by omega) _ (by rw [List.length_set]; omega)]
        simp only [Option.bind_some]
        have hv4 := (netBack_two hfv hc.2.1 (by omega)).1
        congr 1
        unfold netFits
        rw [hv4, decide_eq_true hh.1]
        simp only [Bool.true_and, Bool.and_eq_true, List.all_eq_true]
        refine ⟨fun x hx => ?_, ?_⟩
        · have := hh.2 x hx
          unfold inH
          simp; omega
        · unfold fits
          rw [List.all_eq_true]
          have hf := fitR_fits h l
          unfold fits at hf
          rw [List.all_eq_true] at hf
          intro r hr
          rcases List.mem_or_eq_of_mem_set hr with hr | hr
          · exact hf r hr
          · have := hf _ (rdR_mem hc.2.1 (show a < (fitR h l).length by omega))
            rw [hr]
            simp only [decide_eq_true_eq] at this ⊢
            unfold turn
            dsimp only
            omega
      · have e : netBack n l a = ([], false) := by unfold netBack; rw [if_neg hc]
        rw [e]
        simp only [Bool.not_false, if_true, beq_self_eq_true]
        rw [sameRuns_eq _ (by simp) _ (by simp)]
        rfl
  by_cases c : (l0.length : Int) > 1048576
  · rw [if_pos c]; exact j0 _
  · rw [if_neg c]; exact j0 _
end Go.Proofs.Ytbnndmkkmceenaa.Pure
