-- squeezed
-- dedented
-- Written by a program (wip/tools/mkprint.py) over the kit's print.
import Derived.Test.YtbnndmkkmceenaaP0x0
import Derived.Test.YtbnndmkkmceenaaP0x3
import Derived.Test.YtbnndmkkmceenaaP0x42
namespace Go.Proofs.Ytbnndmkkmceenaa.P0
open Go.RowKit Go.Proofs.Ytbnndmkkmceenaa.Hand Go.Proofs.YtbnndmkkmceenaaW.PrintWords Go.Proofs.YtbnndmkkmceenaaW.PrintLast
set_option linter.unusedVariables false
set_option linter.unusedSimpArgs false

/-! ### spec_l12All: function 117 -/
mutual
def spec_l12All.l0 : Nat → Int → List (S36) → List Int → List (List Int) → Int → Option ((List (List Int)))
 | 0, _, _, _, _, _ => none
 | k + 1, x0, x1, x2, x9, x10 => if x10 < (x1.length : Int) then ((some (([] : List Int) : List Int)).bind fun y767 => (if y767.length + x2.length < 17592186044416 then ((some (y767 ++ x2 : List Int)).bind fun y770 => (if y770.length < 17592186044416 then ((spec_l12All.f k x0 x1 (y770 ++ [x10]) (wrap64 (x10 + 1))).bind fun t776 => (if x9.length + t776.length < 5864062014805 then (spec_l12All.l0 k x0 x1 x2 (x9 ++ t776) (wrap64 (x10 + 1))) else (none))) else (none))) else (none))) else (some x9)
def spec_l12All.f : Nat → Int → List (S36) → List Int → Int → Option ((List (List Int)))
 | 0, _, _, _, _ => none
 | k + 1, a0, l1, l2, a3 => if (l2.length : Int) = (wrap64 (a0 - 1)) then ((spec_TreeIs.f k a0 l1 l2).bind fun t751 => (if t751 = true then ((some (([] : List Int) : List Int)).bind fun y752 => (if y752.length + l2.length < 17592186044416 then (some (([(y752 ++ l2)] : List (List Int)))) else (none))) else (some (([] : List (List Int)))))) else (spec_l12All.l0 k a0 l1 l2 (([] : List (List Int))) a3)
end
set_option maxHeartbeats 8000000 in
set_option maxRecDepth 100000 in
theorem spec_l12All.calls (k : Nat) : ∀ (a0 : Int) (A1 : Option Addr) (c1 : Nat) (l1 : List (S36)) (A2 : Option Addr) (c2 : Nat) (l2 : List Int) (a3 : Int) (r : List (List Int)) (w : World) (hr1 : Kd.C k36 w A1 l1.length l1) (hc1 : l1.length ≤ c1) (hr2 : Kd.C (Kd.int .i64) w A2 l2.length l2) (hc2 : l2.length ≤ c2) (h : spec_l12All.f k a0 l1 l2 a3 = some r),
  Calls Try.prog 117 #[.int .i64 a0, .slice A1 l1.length c1, .slice A2 l2.length c2, .int .i64 a3] w fun e w' => ∃ v0_ : Value, e = .returned (v0_) ∧ Kd.N (Kd.slice 3 (Kd.int .i64)) 26 w' w.heap.size (fun k_ => (w.heap.size ≤ k_)) v0_ r ∧ Below w.heap.size w w' := by
 induction k using Nat.strongRecOn with
 | _ k ih =>
 intro a0 A1 c1 l1 A2 c2 l2 a3 r w hr1 hc1 hr2 hc2 h
 cases k with
 | zero => exact absurd h (by simp [spec_l12All.f])
 | succ k =>
 simp only [spec_l12All.f] at h
 have HR1 := Aside0.mk hr1
 have HC1 := Aside0.mk hc1
 clear hr1 hc1
 have HR2 := Aside0.mk hr2
 have HC2 := Aside0.mk hc2
 clear hr2 hc2
 have HB := Aside0.mk (Below.refl w.heap.size w)
 have H : (if (l2.length : Int) = (wrap64 (a0 - 1)) then ((spec_TreeIs.f k a0 l1 l2).bind fun t751 => (if t751 = true then ((some (([] : List Int) : List Int)).bind fun y752 => (if y752.length + l2.length < 17592186044416 then (some (([(y752 ++ l2)] : List (List Int)))) else (none))) else (some (([] : List (List Int)))))) else (spec_l12All.l0 k a0 l1 l2 (([] : List (List Int))) a3)) = some r := h
 clear h
 by_cases c5 : (l2.length : Int) = (wrap64 (a0 - 1))
 ·rw [if_pos c5] at H
  have c5b0 : ((l2.length : Int) == (wrap64 (a0 - 1))) = true := beq_iff_eq.mpr c5
  have c5b1 : ((l2.length : Int) != (wrap64 (a0 - 1))) = false := bne_eq_false_iff_eq.mpr c5
  clear c5
  replace H := Option.bind_eq_some_iff.mp H
  obtain ⟨t751, A60, H⟩ := H
  replace H : (if t751 = true then ((some (([] : List Int) : List Int)).bind fun y752 => (if y752.length + l2.length < 17592186044416 then (some (([(y752 ++ l2)] : List (List Int)))) else (none))) else (some (([] : List (List Int))))) = some r := H
  have A6 := Aside0.mk A60
  clear A60
  by_cases c7 : t751 = true
  rotate_left
  ·replace c7 := Bool.eq_false_iff.mpr c7
   subst c7
   have H1 : (some (([] : List (List Int)))) = some r := by rw [if_neg (show ¬ (false = true) by decide)] at H; exact H
   clear H
   have H := H1
   clear H1
   obtain ⟨y761, hy761⟩ : ∃ y_ : List (List Int), y_ = (([] : List (List Int))) := ⟨_, rfl⟩
   replace H : (some y761) = some r := by first | (rw [hy761]; with_reducible exact H) | (have H2_ := (Option.bind_some _ _).symm.trans H; rw [hy761]; with_reducible exact H2_) | (have H2_ := (Option.bind_some _ _).symm.trans H; with_reducible exact H2_) | with_reducible exact H | (rw [hy761]; exact H) | exact H
   have Ny761 := Aside0.mk hy761
   clear hy761
   obtain rfl := Option.some.inj H
   go_enter Try.func117, Try.ntmps117
   go_wp2_with (first | ((with_reducible refine gate_callee (f := 75) rfl ?_); refine goesL_ (some 20) rfl rfl Try.func75 (by kernel_rfl) rfl #[.int .i64 a0, .slice A1 l1.length c1, .slice A2 l2.length c2] rfl gs_ ?_; (with_reducible refine (spec_TreeIs.calls k a0 _ _ l1 _ _ l2 false _ ?side1 ?side2 ?side3 ?side4 A6.out).mono ?_); (case side1 => exact cl_ HR1.out); (case side2 => exact HC1.out); (case side3 => exact cl_ HR2.out); (case side4 => exact HC2.out); rintro e w16 ⟨rfl, hb⟩; refine ⟨_, rfl, ?_⟩; have n0_ := Aside0.mk (below_step (bw_ HB.out) hb); clear HB; have HB := n0_; clear n0_; (try clear hb); (try clear hb2); (try clear hk); (try clear hi)) | ((with_reducible refine gate_dst (N := 25) rfl ?_); refine Kd.N_lit (Kd.slice 3 (Kd.int .i64)) _ 26 ?hg (N' := 25) ?hd (xs := ([] : List (List Int))) (inner := []) (ok := (fun k_ => (w.heap.size ≤ k_))) (okp := (fun k_ => (w.heap.size ≤ k_))) ?hr ?hp (fun _ hk => hk) ((show ∀ k_, w16.heap.size ≤ k_ → (fun k_ => (w.heap.size ≤ k_)) k_ from fun k_ hk => (Nat.le_trans (below_size (bw_ HB.out)) hk)) _ (Nat.le_refl _)) (Below.refl _ _) (Nat.le_refl _) (by simp) ?_; (case hd => rfl); (case hg => rfl); (case hr => first | (go_simp; done) | (go_simp; rfl)); (case hp => exact (Reps.none _ _)); intro v762 w17 ho18 hb hg_ hnew_; clear hg_ hnew_; (first | rw [← Ny761.out] at ho18 | (simp only [Int.reduceToNat] at ho18; rw [← Ny761.out] at ho18)); have n0_ := Aside0.mk (Kd.N_lower ho18 (below_size (bw_ HB.out))); have n1_ := Aside0.mk (below_step (bw_ HB.out) hb); clear HB; have HO763 := n0_; have HB := n1_; clear n0_ n1_; clear hb ho18))
   go_ret
   exact ⟨_, by first | rfl | (simp [errW_none, errW_some] <;> rfl) | (simp [*, errW_none, errW_some] <;> rfl), by (with_reducible repeat (first | apply Kd.N_alloc | apply Kd.N_drewN | apply Kd.N_drew)); exact HO763.out, by repeat (first | (with_reducible first | exact HB.out | apply below_alloc | apply pw_below_drewN | apply below_drew1) | exact HB.out)⟩
  subst c7
  have H1 : ((some (([] : List Int) : List Int)).bind fun y752 => (if y752.length + l2.length < 17592186044416 then (some (([(y752 ++ l2)] : List (List Int)))) else (none))) = some r := by rw [if_pos rfl] at H; exact H
  clear H
  have H := H1
  clear H1
  obtain ⟨y752, hy752⟩ : ∃ y_ : List Int, y_ = (([] : List Int)) := ⟨_, rfl⟩
  replace H : (if y752.length + l2.length < 17592186044416 then (some (([(y752 ++ l2)] : List (List Int)))) else (none)) = some r := by first | (rw [hy752]; with_reducible exact H) | (have H2_ := (Option.bind_some _ _).symm.trans H; rw [hy752]; with_reducible exact H2_) | (have H2_ := (Option.bind_some _ _).symm.trans H; with_reducible exact H2_) | with_reducible exact H | (rw [hy752]; exact H) | exact H
  have Ny752 := Aside0.mk hy752
  clear hy752
  by_cases c8 : y752.length + l2.length < 17592186044416
  rotate_left
  ·rw [if_neg c8] at H
   exact absurd H (by simp)
  rw [if_pos c8] at H
  have LMc8 := Aside0.mk c8
  clear c8
  obtain ⟨y755, hy755⟩ : ∃ y_ : List Int, y_ = (y752 ++ l2) := ⟨_, rfl⟩
  replace H : (some (([y755] : List (List Int)))) = some r := by first | (rw [hy755]; with_reducible exact H) | (have H2_ := (Option.bind_some _ _).symm.trans H; rw [hy755]; with_reducible exact H2_) | (have H2_ := (Option.bind_some _ _).symm.trans H; with_reducible exact H2_) | with_reducible exact H | (rw [hy755]; exact H) | exact H
  have Ny755 := Aside0.mk hy755
  clear hy755
  obtain ⟨y758, hy758⟩ : ∃ y_ : List (List Int), y_ = (([y755] : List (List Int))) := ⟨_, rfl⟩
  replace H : (some y758) = some r := by first | (rw [hy758]; with_reducible exact H) | (have H2_ := (Option.bind_some _ _).symm.trans H; rw [hy758]; with_reducible exact H2_) | (have H2_ := (Option.bind_some _ _).symm.trans H; with_reducible exact H2_) | with_reducible exact H | (rw [hy758]; exact H) | exact H
  have Ny758 := Aside0.mk hy758
  clear hy758
  obtain rfl := Option.some.inj H
  go_enter Try.func117, Try.ntmps117
  go_wp2_with (first | ((with_reducible refine gate_callee (f := 75) rfl ?_); refine goesL_ (some 20) rfl rfl Try.func75 (by kernel_rfl) rfl #[.int .i64 a0, .slice A1 l1.length c1, .slice A2 l2.length c2] rfl gs_ ?_; (with_reducible refine (spec_TreeIs.calls k a0 _ _ l1 _ _ l2 true _ ?side1 ?side2 ?side3 ?side4 A6.out).mono ?_); (case side1 => exact cl_ HR1.out); (case side2 => exact HC1.out); (case side3 => exact cl_ HR2.out); (case side4 => exact HC2.out); rintro e w9 ⟨rfl, hb⟩; refine ⟨_, rfl, ?_⟩; have n0_ := Aside0.mk (below_step (bw_ HB.out) hb); clear HB; have HB := n0_; clear n0_; (try clear hb); (try clear hb2); (try clear hk); (try clear hi)) | ((with_reducible refine gate_dst (N := 21) rfl ?_); refine Kd.R_lit (Kd.int .i64) _ 3 ?hg (N := 21) ?hd (xs := ([] : List Int)) (inner := []) (ok := fun _ => True) (okp := fun _ => True) ?hr ?hp (fun _ hk => hk) trivial (Below.refl _ _) (Nat.le_refl _) (by simp) ?_; (case hd => rfl); (case hg => rfl); (case hr => first | (go_simp; done) | (go_simp; rfl)); (case hp => exact (Reps.none _ _)); intro v753 w10 ho11 hb hg_ hnew_; clear hg_ hnew_; (first | rw [← Ny752.out] at ho11 | (simp only [Int.reduceToNat] at ho11; rw [← Ny752.out] at ho11)); have n0_ := Aside0.mk (Kd.R_lower (Kd.R_newM (M := fun k_ => (w.heap.size ≤ k_)) ho11 (below_size (bw_ HB.out)) (fun k_ h_ => h_)) (below_size (bw_ HB.out))); have n1_ := Aside0.mk (below_step (bw_ HB.out) hb); clear HB; have HO754 := n0_; have HB := n1_; clear n0_ n1_; clear hb ho11) | ((with_reducible refine gate_builtin (b := .append) (xs := #[.tmp 21, .tmp 22]) rfl ?_); at_builtin; refine Kd.R_append_rows (Kd.int .i64) (w0 := w) w.heap.size rfl (.tmp 21) (.tmp 22) 26 3 (.int .i64 0) 8 rfl Try.underlying26 info3 rfl (by decide) (by omega) v753 y752 l2 _ _ _ (fun k_ => (w.heap.size ≤ k_)) (fun _ => False) rfl rfl ?aO ?aR (fun _ _ h => h) (fun _ h => h.elim) ?aF ?aB ?aS ?aL ?_; (case aR => exact cl_ (Kd.C_below HR2.out HB.out)); (case aB => exact (bw_ HB.out)); (case aF => exact (fun k_ hk => (Nat.le_trans (below_size (bw_ HB.out)) hk))); (case aO => exact (by (with_reducible repeat (first | apply Kd.R_alloc | apply Kd.R_drewN | apply Kd.R_drew)); exact Kd.R_mono HO754.out (fun _ hk => hk.1))); (case aS => exact (below_size (bw_ HB.out))); (case aL => have := LMc8.out; omega); intro v756 w12 ho hb hg hat; rw [← Ny755.out] at ho; have n0_ := Aside0.mk (hb); have n1_ := Aside0.mk (ho); clear HB; clear HO754; have HB := n0_; have HO757 := n1_; clear n0_ n1_; clear ho hb hg hat; obtain ⟨Ao13, co13, eo13⟩ := Kd.R_slice HO757.out; subst eo13) | ((with_reducible refine gate_dst (N := 24) rfl ?_); refine Kd.N_lit (Kd.slice 3 (Kd.int .i64)) _ 26 ?hg (N' := 24) ?hd (xs := ([y755] : List (List Int))) (inner := [.slice Ao13 y755.length co13]) (ok := (fun k_ => (w.heap.size ≤ k_))) (okp := (fun k_ => (w.heap.size ≤ k_))) ?hr ?hp (fun _ hk => hk) ((show ∀ k_, w12.heap.size ≤ k_ → (fun k_ => (w.heap.size ≤ k_)) k_ from fun k_ hk => (Nat.le_trans (below_size (bw_ HB.out)) hk)) _ (Nat.le_refl _)) (Below.refl _ _) (Nat.le_refl _) (by simp) ?_; (case hd => rfl); (case hg => rfl); (case hr => first | (go_simp; done) | (go_simp; rfl)); (case hp => exact (Reps.one (show Kd.FK (Kd.slice 3 (Kd.int .i64)) _ _ y755 [.slice Ao13 y755.length co13] from (Kd.FK_slice_mk (Kd.R_reads' (Kd.R_mono (ok' := (fun k_ => (w.heap.size ≤ k_))) (HO757.out) (fun k_ hk => hk))).2.1 (Kd.R_F (Kd.R_mono (ok' := (fun k_ => (w.heap.size ≤ k_))) (HO757.out) (fun k_ hk => hk))))) (Reps.none _ _))); intro v759 w14 ho15 hb hg_ hnew_; clear hg_ hnew_; (first | rw [← Ny758.out] at ho15 | (simp only [Int.reduceToNat] at ho15; rw [← Ny758.out] at ho15)); have n0_ := Aside0.mk (Kd.N_lower ho15 (below_size (bw_ HB.out))); have n1_ := Aside0.mk (below_step (bw_ HB.out) hb); clear HB; clear HO757; have HO760 := n0_; have HB := n1_; clear n0_ n1_; clear hb ho15))
  go_ret
  exact ⟨_, by first | rfl | (simp [errW_none, errW_some] <;> rfl) | (simp [*, errW_none, errW_some] <;> rfl), by (with_reducible repeat (first | apply Kd.N_alloc | apply Kd.N_drewN | apply Kd.N_drew)); exact HO760.out, by repeat (first | (with_reducible first | exact HB.out | apply below_alloc | apply pw_below_drewN | apply below_drew1) | exact HB.out)⟩
 rw [if_neg c5] at H
 have c5b0 : ((l2.length : Int) == (wrap64 (a0 - 1))) = false := beq_eq_false_iff_ne.mpr c5
 have c5b1 : ((l2.length : Int) != (wrap64 (a0 - 1))) = true := bne_iff_ne.mpr c5
 obtain ⟨y764, hy764⟩ : ∃ y_ : List (List Int), y_ = (([] : List (List Int))) := ⟨_, rfl⟩
 replace H : (spec_l12All.l0 k a0 l1 l2 y764 a3) = some r := by first | (rw [hy764]; with_reducible exact H) | (have H2_ := (Option.bind_some _ _).symm.trans H; rw [hy764]; with_reducible exact H2_) | (have H2_ := (Option.bind_some _ _).symm.trans H; with_reducible exact H2_) | with_reducible exact H | (rw [hy764]; exact H) | exact H
 have Ny764 := Aside0.mk hy764
 clear hy764
 have H' := Aside0.mk H
 clear H
 go_enter Try.func117, Try.ntmps117
 go_wp2_with (first | ((with_reducible refine gate_dst (N := 26) rfl ?_); refine Kd.N_lit (Kd.slice 3 (Kd.int .i64)) _ 26 ?hg (N' := 26) ?hd (xs := ([] : List (List Int))) (inner := []) (ok := (fun k_ => (w.heap.size ≤ k_))) (okp := (fun k_ => (w.heap.size ≤ k_))) ?hr ?hp (fun _ hk => hk) ((show ∀ k_, w.heap.size ≤ k_ → (fun k_ => (w.heap.size ≤ k_)) k_ from fun k_ hk => (Nat.le_trans (below_size (bw_ HB.out)) hk)) _ (Nat.le_refl _)) (Below.refl _ _) (Nat.le_refl _) (by simp) ?_; (case hd => rfl); (case hg => rfl); (case hr => first | (go_simp; done) | (go_simp; rfl)); (case hp => exact (Reps.none _ _)); intro v765 w19 ho20 hb hg_ hnew_; clear hg_ hnew_; (first | rw [← Ny764.out] at ho20 | (simp only [Int.reduceToNat] at ho20; rw [← Ny764.out] at ho20)); have n0_ := Aside0.mk (Kd.N_lower ho20 (below_size (bw_ HB.out))); have n1_ := Aside0.mk (below_step (bw_ HB.out) hb); clear HB; have HO766 := n0_; have HB := n1_; clear n0_ n1_; clear hb ho20))
 go_loopg [9, 10] k (fun kq v9 v10 w' => ∃ (x9_1 : List (List Int)) (x10_1 : Int), v10 = .int .i64 x10_1 ∧ Aside0 (spec_l12All.l0 kq a0 l1 l2 x9_1 x10_1 = some r) ∧ Aside0 (kq ≤ k) ∧ Aside0 (Kd.N (Kd.slice 3 (Kd.int .i64)) 26 w' w.heap.size (fun k_ => (w.heap.size ≤ k_)) v9 x9_1) ∧ Aside0 (Below w.heap.size w w'))
 case atStart => exact ⟨(y764), (a3), (by first | rfl | (simp; done) | (simp [*]; done)), H', ⟨Nat.le_refl _⟩, ⟨by (with_reducible repeat (first | apply Kd.N_alloc | apply Kd.N_drewN | apply Kd.N_drew)); exact HO766.out⟩, ⟨by repeat (first | (with_reducible first | exact HB.out | apply below_alloc | apply pw_below_drewN | apply below_drew1) | exact HB.out)⟩⟩
 case round =>
  clear H'
  try clear c1; try clear c2; try clear p2; try clear c5; try clear c5b0; try clear c5b1; try clear p6; try clear c7; try clear c8; try clear c11
  obtain ⟨x9_1, x10_1, rfl, HA, HK1, HO_9, HB⟩ := hrel
  cases gk with
  | zero => exact absurd HA.out (by simp [spec_l12All.l0])
  | succ k1 =>
   have H := HA.out
   clear HA
   simp only [spec_l12All.l0] at H
   by_cases c21 : x10_1 < (l1.length : Int)
   rotate_left
   ·rw [if_neg c21] at H
    have c21b0 : decide (x10_1 < (l1.length : Int)) = false := decide_eq_false c21
    clear c21
    obtain rfl := Option.some.inj H
    go_wp2
    go_ret
    exact ⟨_, by first | rfl | (simp [errW_none, errW_some] <;> rfl) | (simp [*, errW_none, errW_some] <;> rfl), by (with_reducible repeat (first | apply Kd.N_alloc | apply Kd.N_drewN | apply Kd.N_drew)); exact HO_9.out, by repeat (first | (with_reducible first | exact HB.out | apply below_alloc | apply pw_below_drewN | apply below_drew1) | exact HB.out)⟩

   rw [if_pos c21] at H
   have c21b0 : decide (x10_1 < (l1.length : Int)) = true := decide_eq_true c21
   clear c21
   obtain ⟨y767, hy767⟩ : ∃ y_ : List Int, y_ = (([] : List Int)) := ⟨_, rfl⟩
   replace H : (if y767.length + l2.length < 17592186044416 then ((some (y767 ++ l2 : List Int)).bind fun y770 => (if y770.length < 17592186044416 then ((spec_l12All.f k1 a0 l1 (y770 ++ [x10_1]) (wrap64 (x10_1 + 1))).bind fun t776 => (if x9_1.length + t776.length < 5864062014805 then (spec_l12All.l0 k1 a0 l1 l2 (x9_1 ++ t776) (wrap64 (x10_1 + 1))) else (none))) else (none))) else (none)) = some r := by first | (rw [hy767]; with_reducible exact H) | (have H2_ := (Option.bind_some _ _).symm.trans H; rw [hy767]; with_reducible exact H2_) | (have H2_ := (Option.bind_some _ _).symm.trans H; with_reducible exact H2_) | with_reducible exact H | (rw [hy767]; exact H) | exact H
   have Ny767 := Aside0.mk hy767
   clear hy767
   by_cases c22 : y767.length + l2.length < 17592186044416
   rotate_left
   ·rw [if_neg c22] at H
    exact absurd H (by simp)
   rw [if_pos c22] at H
   have LMc22 := Aside0.mk c22
   clear c22
   obtain ⟨y770, hy770⟩ : ∃ y_ : List Int, y_ = (y767 ++ l2) := ⟨_, rfl⟩
   replace H : (if y770.length < 17592186044416 then ((spec_l12All.f k1 a0 l1 (y770 ++ [x10_1]) (wrap64 (x10_1 + 1))).bind fun t776 => (if x9_1.length + t776.length < 5864062014805 then (spec_l12All.l0 k1 a0 l1 l2 (x9_1 ++ t776) (wrap64 (x10_1 + 1))) else (none))) else (none)) = some r := by first | (rw [hy770]; with_reducible exact H) | (have H2_ := (Option.bind_some _ _).symm.trans H; rw [hy770]; with_reducible exact H2_) | (have H2_ := (Option.bind_some _ _).symm.trans H; with_reducible exact H2_) | with_reducible exact H | (rw [hy770]; exact H) | exact H
   have Ny770 := Aside0.mk hy770
   clear hy770
   by_cases c23 : y770.length < 17592186044416
   rotate_left
   ·rw [if_neg c23] at H
    exact absurd H (by simp)
   rw [if_pos c23] at H
   have LMc23 := Aside0.mk c23
   clear c23
   obtain ⟨y773, hy773⟩ : ∃ y_ : List Int, y_ = (y770 ++ [x10_1]) := ⟨_, rfl⟩
   replace H : ((spec_l12All.f k1 a0 l1 y773 (wrap64 (x10_1 + 1))).bind fun t776 => (if x9_1.length + t776.length < 5864062014805 then (spec_l12All.l0 k1 a0 l1 l2 (x9_1 ++ t776) (wrap64 (x10_1 + 1))) else (none))) = some r := by first | (rw [hy773]; with_reducible exact H) | (have H2_ := (Option.bind_some _ _).symm.trans H; rw [hy773]; with_reducible exact H2_) | (have H2_ := (Option.bind_some _ _).symm.trans H; with_reducible exact H2_) | with_reducible exact H | (rw [hy773]; exact H) | exact H
   have Ny773 := Aside0.mk hy773
   clear hy773
   replace H := Option.bind_eq_some_iff.mp H
   obtain ⟨t776, A240, H⟩ := H
   replace H : (if x9_1.length + t776.length < 5864062014805 then (spec_l12All.l0 k1 a0 l1 l2 (x9_1 ++ t776) (wrap64 (x10_1 + 1))) else (none)) = some r := H
   have A24 := Aside0.mk A240
   clear A240
   by_cases c25 : x9_1.length + t776.length < 5864062014805
   ·rw [if_pos c25] at H
    have LMc25 := Aside0.mk c25
    clear c25
    obtain ⟨y779, hy779⟩ : ∃ y_ : List (List Int), y_ = (x9_1 ++ t776) := ⟨_, rfl⟩
    replace H : (spec_l12All.l0 k1 a0 l1 l2 y779 (wrap64 (x10_1 + 1))) = some r := by first | (rw [hy779]; with_reducible exact H) | (have H2_ := (Option.bind_some _ _).symm.trans H; rw [hy779]; with_reducible exact H2_) | (have H2_ := (Option.bind_some _ _).symm.trans H; with_reducible exact H2_) | with_reducible exact H | (rw [hy779]; exact H) | exact H
    have Ny779 := Aside0.mk hy779
    clear hy779
    have H' := Aside0.mk H
    clear H
    go_wp2_with (first | ((with_reducible refine gate_dst (N := 34) rfl ?_); refine Kd.R_lit (Kd.int .i64) _ 3 ?hg (N := 34) ?hd (xs := ([] : List Int)) (inner := []) (ok := fun _ => True) (okp := fun _ => True) ?hr ?hp (fun _ hk => hk) trivial (Below.refl _ _) (Nat.le_refl _) (by simp) ?_; (case hd => rfl); (case hg => rfl); (case hr => first | (go_simp; done) | (go_simp; rfl)); (case hp => exact (Reps.none _ _)); intro v768 w26 ho27 hb hg_ hnew_; clear hg_ hnew_; (first | rw [← Ny767.out] at ho27 | (simp only [Int.reduceToNat] at ho27; rw [← Ny767.out] at ho27)); have n0_ := Aside0.mk (Kd.N_elder' (by (with_reducible repeat (first | apply Kd.N_alloc | apply Kd.N_drewN | apply Kd.N_drew)); exact HO_9.out) (Kd.R_base ho27) hb); have n1_ := Aside0.mk (Kd.R_lower (Kd.R_newM (M := fun k_ => (w.heap.size ≤ k_)) ho27 (below_size (bw_ HB.out)) (fun k_ h_ => h_)) (below_size (bw_ HB.out))); have n2_ := Aside0.mk (below_step (bw_ HB.out) hb); clear HO_9; clear HB; have HO_9 := n0_; have HO769 := n1_; have HB := n2_; clear n0_ n1_ n2_; clear hb ho27) | ((with_reducible refine gate_builtin (b := .append) (xs := #[.tmp 34, .tmp 35]) rfl ?_); at_builtin; refine Kd.R_append_rows (Kd.int .i64) (w0 := w) w.heap.size rfl (.tmp 34) (.tmp 35) 26 3 (.int .i64 0) 8 rfl Try.underlying26 info3 rfl (by decide) (by omega) v768 y767 l2 _ _ _ (fun k_ => (w.heap.size ≤ k_)) (fun _ => False) rfl rfl ?aO ?aR (fun _ _ h => h) (fun _ h => h.elim) ?aF ?aB ?aS ?aL ?_; (case aR => exact cl_ (Kd.C_below HR2.out HB.out)); (case aB => exact (bw_ HB.out)); (case aF => exact (fun k_ hk => (Nat.le_trans (below_size (bw_ HB.out)) hk))); (case aO => exact (by (with_reducible repeat (first | apply Kd.R_alloc | apply Kd.R_drewN | apply Kd.R_drew)); exact Kd.R_mono HO769.out (fun _ hk => hk.1))); (case aS => exact (below_size (bw_ HB.out))); (case aL => have := LMc22.out; omega); intro v771 w28 ho hb hg hat; rw [← Ny770.out] at ho; have n0_ := Aside0.mk (Kd.N_afterv (ok := (fun k_ => (w.heap.size ≤ k_))) (by (with_reducible repeat (first | apply Kd.N_alloc | apply Kd.N_drewN | apply Kd.N_drew)); exact HO_9.out) hg hat); have n1_ := Aside0.mk (hb); have n2_ := Aside0.mk (ho); clear HO_9; clear HB; clear HO769; have HO_9 := n0_; have HB := n1_; have HO772 := n2_; clear n0_ n1_ n2_; clear ho hb hg hat) | ((with_reducible refine gate_builtin (b := .append) (xs := #[.tmp 36, .tmp 38]) rfl ?_); at_builtin; refine Kd.R_append (Kd.int .i64) (w0 := w) w.heap.size rfl (.tmp 36) (.tmp 38) 26 3 (.int .i64 0) 8 rfl Try.underlying26 info3 rfl (by decide) (by omega) v771 y770 x10_1 [.int .i64 x10_1] (fun k_ => (w.heap.size ≤ k_)) (fun _ => False) rfl rfl ?aP (fun _ hk => hk.elim) ?aF ?aO ?aB ?aS ?aL ?_; (case aP => exact rfl); (case aB => exact (bw_ HB.out)); (case aF => exact (fun k_ hk => (Nat.le_trans (below_size (bw_ HB.out)) hk))); (case aO => exact (rl_ HO772.out)); (case aS => exact (below_size (bw_ HB.out))); (case aL => have := LMc23.out; omega); intro v774 w29 ho hb hg hat; rw [← Ny773.out] at ho; have n0_ := Aside0.mk (Kd.N_afterv (ok := (fun k_ => (w.heap.size ≤ k_))) (by (with_reducible repeat (first | apply Kd.N_alloc | apply Kd.N_drewN | apply Kd.N_drew)); exact HO_9.out) hg hat); have n1_ := Aside0.mk (hb); have n2_ := Aside0.mk (ho); clear HO_9; clear HB; clear HO772; have HO_9 := n0_; have HB := n1_; have HO775 := n2_; clear n0_ n1_ n2_; clear ho hb hg hat; obtain ⟨Ao30, co30, eo30⟩ := Kd.R_slice HO775.out; subst eo30) | ((with_reducible refine gate_callee (f := 117) rfl ?_); refine goesL_ (some 46) rfl rfl Try.func117 (by kernel_rfl) rfl #[.int .i64 a0, .slice A1 l1.length c1, .slice Ao30 y773.length co30, .int .i64 (wrap64 (x10_1 + 1))] rfl gs_ ?_; (with_reducible refine (ih k1 (by have := HK1.out; omega) a0 _ _ l1 _ _ y773 (wrap64 (x10_1 + 1)) t776 _ ?side1 ?side2 ?side3 ?side4 A24.out).mono ?_); (case side1 => exact cl_ (Kd.C_below HR1.out HB.out)); (case side2 => exact HC1.out); (case side3 => exact cl_ (Kd.R_reads' HO775.out).2.2); (case side4 => exact (Kd.R_reads' HO775.out).2.1); rintro e w31 ⟨v777, rfl, ho0, hb⟩; refine ⟨_, rfl, ?_⟩; have n0_ := Aside0.mk (Kd.N_elder' (by (with_reducible repeat (first | apply Kd.N_alloc | apply Kd.N_drewN | apply Kd.N_drew)); exact HO_9.out) (Kd.N_base ho0) hb); have n1_ := Aside0.mk (Kd.R_below (rl_ HO775.out) hb); have n2_ := Aside0.mk (Kd.N_lower (Kd.N_mono (ok' := fun k_ => (w.heap.size ≤ k_) ∧ some k_ ≠ (u9 : Value).ownBlock ∧ some k_ ≠ (.slice Ao30 y773.length co30 : Value).ownBlock) ho0 (fun k_ hk_ => ⟨(Nat.le_trans (below_size (bw_ HB.out)) hk_), (Kd.fresh' (Kd.N_lt (by (with_reducible repeat (first | apply Kd.N_alloc | apply Kd.N_drewN | apply Kd.N_drew)); exact HO_9.out)) k_ hk_), (Kd.fresh' (Kd.R_lt (rl_ HO775.out)) k_ hk_)⟩)) (below_size (bw_ HB.out))); have n3_ := Aside0.mk (below_step (bw_ HB.out) hb); clear HO_9; clear HO775; clear HB; have HO_9 := n0_; have HO775 := n1_; have HO778 := n2_; have HB := n3_; clear n0_ n1_ n2_ n3_; (try clear hb); (try clear hb2); (try clear hk); (try clear hi); (try clear ho0); obtain ⟨Ao33, co33, eo33⟩ := Kd.N_slice HO778.out; subst eo33) | ((with_reducible refine gate_builtin (b := .append) (xs := #[.tmp 40, .tmp 46]) rfl ?_); at_builtin; refine Kd.N_append_rows (Kd.slice 3 (Kd.int .i64)) (w0 := w) w.heap.size rfl (.tmp 40) (.tmp 46) 81 26 (.slice none 0 0) 24 rfl Try.underlying81 info26 rfl (by decide) (by omega) u9 x9_1 t776 _ _ _ (fun k_ => (w.heap.size ≤ k_) ∧ some k_ ≠ (.slice Ao30 y773.length co30 : Value).ownBlock) (fun k_ => ((fun k_ => (w.heap.size ≤ k_) ∧ some k_ ≠ (.slice Ao30 y773.length co30 : Value).ownBlock)) k_ ∧ some k_ ≠ (u9 : Value).ownBlock) rfl rfl ?aO ?aR (fun _ hk => hk) ?aF ?aB ?aS ?aL ?_; (case aR => exact (by skip; exact Kd.N_F (Kd.N_mono (ok' := (fun k_ => ((fun k_ => (w.heap.size ≤ k_) ∧ some k_ ≠ (.slice Ao30 y773.length co30 : Value).ownBlock)) k_ ∧ some k_ ≠ (u9 : Value).ownBlock)) (HO778.out) (fun k_ hk => ⟨⟨hk.1, hk.2.2⟩, hk.2.1⟩)))); (case aB => exact (bw_ HB.out)); (case aF => exact (fun k_ hk => ⟨(Nat.le_trans (below_size (bw_ HB.out)) hk), Kd.fresh' (Kd.R_lt (rl_ HO775.out)) k_ hk⟩)); (case aO => exact (by (with_reducible repeat (first | apply Kd.N_alloc | apply Kd.N_drewN | apply Kd.N_drew)); exact Kd.N_mono HO_9.out (fun _ hk => ⟨hk.1.1, hk.1.2⟩))); (case aS => exact (below_size (bw_ HB.out))); (case aL => have := LMc25.out; omega); intro v780 w32 ho hb hg hat; rw [← Ny779.out] at ho; have n0_ := Aside0.mk (Kd.R_over' (rl_ HO775.out) (Kd.N_typed (by (with_reducible repeat (first | apply Kd.N_alloc | apply Kd.N_drewN | apply Kd.N_drew)); exact HO_9.out)) (by decide) hg); have n1_ := Aside0.mk (Kd.N_afterv (ok := (fun k_ => (w.heap.size ≤ k_) ∧ some k_ ≠ (.slice Ao30 y773.length co30 : Value).ownBlock)) (by (with_reducible repeat (first | apply Kd.N_alloc | apply Kd.N_drewN | apply Kd.N_drew)); exact Kd.N_mono HO778.out (fun _ hk => ⟨⟨hk.1, hk.2.2⟩, hk.2.1⟩)) hg hat); have n2_ := Aside0.mk (hb); have n3_ := Aside0.mk (ho); clear HO775; clear HO778; clear HB; clear HO_9; have HO775 := n0_; have HO778 := n1_; have HB := n2_; have HO781 := n3_; clear n0_ n1_ n2_ n3_; clear ho hb hg hat))
    go_roundg k1
    case measure => have := HK1.out; omega
    case rel => exact ⟨(y779), (wrap64 (x10_1 + 1)), (by first | rfl | (simp; done) | (simp [*]; done)), H', ⟨by have := HK1.out; omega⟩, ⟨by (with_reducible repeat (first | apply Kd.N_alloc | apply Kd.N_drewN | apply Kd.N_drew)); exact Kd.N_mono HO781.out (fun _ hk => hk.1)⟩, ⟨by repeat (first | (with_reducible first | exact HB.out | apply below_alloc | apply pw_below_drewN | apply below_drew1) | exact HB.out)⟩⟩
   rw [if_neg c25] at H
   exact absurd H (by simp)
/-! ### spec_TreeMany: function 82 -/
def spec_TreeMany.f (k : Nat) (a0 : Int) (l1 : List (S36)) : Option (Int) := (spec_NetValid.f k a0 l1).bind fun t782 => (if t782 = true then ((spec_l12All.f k a0 l1 (([] : List Int)) 0).bind fun t786 => (some (t786.length : Int))) else (some (-1)))
set_option maxHeartbeats 8000000 in
set_option maxRecDepth 100000 in
theorem spec_TreeMany.calls (k : Nat) (a0 : Int) (A1 : Option Addr) (c1 : Nat) (l1 : List (S36)) (r : Int) (w : World) (hr1 : Kd.C k36 w A1 l1.length l1) (hc1 : l1.length ≤ c1) (h : spec_TreeMany.f k a0 l1 = some r) :
  Calls Try.prog 82 #[.int .i64 a0, .slice A1 l1.length c1] w fun e w' => e = .returned (.int .i64 r) ∧ Below w.heap.size w w' := by
 have HR1 := Aside0.mk hr1
 have HC1 := Aside0.mk hc1
 clear hr1 hc1
 have HB := Aside0.mk (Below.refl w.heap.size w)
 have H : ((spec_NetValid.f k a0 l1).bind fun t782 => (if t782 = true then ((spec_l12All.f k a0 l1 (([] : List Int)) 0).bind fun t786 => (some (t786.length : Int))) else (some (-1)))) = some r := h
 clear h
 replace H := Option.bind_eq_some_iff.mp H
 obtain ⟨t782, A30, H⟩ := H
 replace H : (if t782 = true then ((spec_l12All.f k a0 l1 (([] : List Int)) 0).bind fun t786 => (some (t786.length : Int))) else (some (-1))) = some r := H
 have A3 := Aside0.mk A30
 clear A30
 by_cases c4 : t782 = true
 rotate_left
 ·replace c4 := Bool.eq_false_iff.mpr c4
  subst c4
  have H1 : (some (-1)) = some r := by rw [if_neg (show ¬ (false = true) by decide)] at H; exact H
  clear H
  have H := H1
  clear H1
  obtain rfl := Option.some.inj H
  go_enter Try.func82, Try.ntmps82
  go_wp2_with (first | ((with_reducible refine gate_callee (f := 44) rfl ?_); refine goesL_ (some 7) rfl rfl Try.func44 (by kernel_rfl) rfl #[.int .i64 a0, .slice A1 l1.length c1] rfl gs_ ?_; (with_reducible refine (spec_NetValid.calls k a0 _ _ l1 false _ ?side1 ?side2 A3.out).mono ?_); (case side1 => exact cl_ HR1.out); (case side2 => exact HC1.out); rintro e w12 ⟨rfl, hb⟩; refine ⟨_, rfl, ?_⟩; have n0_ := Aside0.mk (below_step (bw_ HB.out) hb); clear HB; have HB := n0_; clear n0_; (try clear hb); (try clear hb2); (try clear hk); (try clear hi)))
  go_ret
  exact ⟨by first | rfl | (simp [errW_none, errW_some] <;> rfl) | (simp [*, errW_none, errW_some] <;> rfl), by repeat (first | (with_reducible first | exact HB.out | apply below_alloc | apply pw_below_drewN | apply below_drew1) | exact HB.out)⟩

 subst c4
 have H1 : ((spec_l12All.f k a0 l1 (([] : List Int)) 0).bind fun t786 => (some (t786.length : Int))) = some r := by rw [if_pos rfl] at H; exact H
 clear H
 have H := H1
 clear H1
 obtain ⟨y783, hy783⟩ : ∃ y_ : List Int, y_ = (([] : List Int)) := ⟨_, rfl⟩
 replace H : ((spec_l12All.f k a0 l1 y783 0).bind fun t786 => (some (t786.length : Int))) = some r := by first | (rw [hy783]; with_reducible exact H) | (have H2_ := (Option.bind_some _ _).symm.trans H; rw [hy783]; with_reducible exact H2_) | (have H2_ := (Option.bind_some _ _).symm.trans H; with_reducible exact H2_) | with_reducible exact H | (rw [hy783]; exact H) | exact H
 have Ny783 := Aside0.mk hy783
 clear hy783
 replace H := Option.bind_eq_some_iff.mp H
 obtain ⟨t786, A50, H⟩ := H
 replace H : (some (t786.length : Int)) = some r := H
 have A5 := Aside0.mk A50
 clear A50
 obtain rfl := Option.some.inj H
 go_enter Try.func82, Try.ntmps82
 go_wp2_with (first | ((with_reducible refine gate_callee (f := 44) rfl ?_); refine goesL_ (some 7) rfl rfl Try.func44 (by kernel_rfl) rfl #[.int .i64 a0, .slice A1 l1.length c1] rfl gs_ ?_; (with_reducible refine (spec_NetValid.calls k a0 _ _ l1 true _ ?side1 ?side2 A3.out).mono ?_); (case side1 => exact cl_ HR1.out); (case side2 => exact HC1.out); rintro e w6 ⟨rfl, hb⟩; refine ⟨_, rfl, ?_⟩; have n0_ := Aside0.mk (below_step (bw_ HB.out) hb); clear HB; have HB := n0_; clear n0_; (try clear hb); (try clear hb2); (try clear hk); (try clear hi)) | ((with_reducible refine gate_dst (N := 11) rfl ?_); refine Kd.R_lit (Kd.int .i64) _ 3 ?hg (N := 11) ?hd (xs := ([] : List Int)) (inner := []) (ok := fun _ => True) (okp := fun _ => True) ?hr ?hp (fun _ hk => hk) trivial (Below.refl _ _) (Nat.le_refl _) (by simp) ?_; (case hd => rfl); (case hg => rfl); (case hr => first | (go_simp; done) | (go_simp; rfl)); (case hp => exact (Reps.none _ _)); intro v784 w7 ho8 hb hg_ hnew_; clear hg_ hnew_; (first | rw [← Ny783.out] at ho8 | (simp only [Int.reduceToNat] at ho8; rw [← Ny783.out] at ho8)); have n0_ := Aside0.mk (Kd.R_lower ho8 (below_size (bw_ HB.out))); have n1_ := Aside0.mk (below_step (bw_ HB.out) hb); clear HB; have HO785 := n0_; have HB := n1_; clear n0_ n1_; clear hb ho8; obtain ⟨Ao9, co9, eo9⟩ := Kd.R_slice HO785.out; subst eo9) | ((with_reducible refine gate_callee (f := 117) rfl ?_); refine goesL_ (some 12) rfl rfl Try.func117 (by kernel_rfl) rfl #[.int .i64 a0, .slice A1 l1.length c1, .slice Ao9 y783.length co9, .int .i64 0] rfl gs_ ?_; (with_reducible refine (spec_l12All.calls k a0 _ _ l1 _ _ y783 0 t786 _ ?side1 ?side2 ?side3 ?side4 A5.out).mono ?_); (case side1 => exact cl_ (Kd.C_below HR1.out HB.out)); (case side2 => exact HC1.out); (case side3 => exact cl_ (Kd.R_reads' HO785.out).2.2); (case side4 => exact (Kd.R_reads' HO785.out).2.1); rintro e w10 ⟨v787, rfl, ho0, hb⟩; refine ⟨_, rfl, ?_⟩; have n0_ := Aside0.mk (Kd.R_below (rl_ HO785.out) hb); have n1_ := Aside0.mk (Kd.N_lower (Kd.N_mono (ok' := fun k_ => some k_ ≠ (.slice Ao9 y783.length co9 : Value).ownBlock) ho0 (fun k_ hk_ => (Kd.fresh' (Kd.R_lt (rl_ HO785.out)) k_ hk_))) (below_size (bw_ HB.out))); have n2_ := Aside0.mk (below_step (bw_ HB.out) hb); clear HO785; clear HB; have HO785 := n0_; have HO788 := n1_; have HB := n2_; clear n0_ n1_ n2_; (try clear hb); (try clear hb2); (try clear hk); (try clear hi); (try clear ho0); obtain ⟨Ao11, co11, eo11⟩ := Kd.N_slice HO788.out; subst eo11))
 go_ret
 exact ⟨by first | rfl | (simp [errW_none, errW_some] <;> rfl) | (simp [*, errW_none, errW_some] <;> rfl), by repeat (first | (with_reducible first | exact HB.out | apply below_alloc | apply pw_below_drewN | apply below_drew1) | exact HB.out)⟩
/-! ### spec_TreeWeight: function 86 -/
mutual
def spec_TreeWeight.l0 : Nat → List (S36) → Int → List (List Int) → Int → Option (Int)
 | 0, _, _, _, _ => none
 | k + 1, x1, x5, x6, x7 => if x7 < (x6.length : Int) then (spec_TreeWeight.l1 k x1 x5 x6 x7 1 0) else (some x5)
def spec_TreeWeight.l1 : Nat → List (S36) → Int → List (List Int) → Int → Int → Int → Option (Int)
 | 0, _, _, _, _, _, _ => none
 | k + 1, x1, x5, x6, x7, x8, x9 => if 0 ≤ x7 then (if x7 < (x6.length : Int) then (if x9 < ((rd_L4 x6 x7).length : Int) then (if 0 ≤ x9 then (if 0 ≤ (rd (rd_L4 x6 x7) x9) then (if (rd (rd_L4 x6 x7) x9) < (x1.length : Int) then (spec_TreeWeight.l1 k x1 x5 x6 x7 (wrap64 (x8 * ((rd_T36 x1 (rd (rd_L4 x6 x7) x9)).f3))) (wrap64 (x9 + 1))) else (none)) else (none)) else (none)) else (spec_TreeWeight.l0 k x1 (wrap64 (x5 + x8)) x6 (wrap64 (x7 + 1)))) else (none)) else (none)
end
def spec_TreeWeight.f (k : Nat) (a0 : Int) (l1 : List (S36)) : Option (Int) := (spec_NetValid.f k a0 l1).bind fun t789 => (if t789 = true then ((spec_l12All.f k a0 l1 (([] : List Int)) 0).bind fun t793 => (spec_TreeWeight.l0 k l1 0 t793 0)) else (some (-1)))
set_option maxHeartbeats 8000000 in
set_option maxRecDepth 100000 in
theorem spec_TreeWeight.calls (k : Nat) (a0 : Int) (A1 : Option Addr) (c1 : Nat) (l1 : List (S36)) (r : Int) (w : World) (hr1 : Kd.C k36 w A1 l1.length l1) (hc1 : l1.length ≤ c1) (h : spec_TreeWeight.f k a0 l1 = some r) :
  Calls Try.prog 86 #[.int .i64 a0, .slice A1 l1.length c1] w fun e w' => e = .returned (.int .i64 r) ∧ Below w.heap.size w w' := by
 have HR1 := Aside0.mk hr1
 have HC1 := Aside0.mk hc1
 clear hr1 hc1
 have HB := Aside0.mk (Below.refl w.heap.size w)
 have H : ((spec_NetValid.f k a0 l1).bind fun t789 => (if t789 = true then ((spec_l12All.f k a0 l1 (([] : List Int)) 0).bind fun t793 => (spec_TreeWeight.l0 k l1 0 t793 0)) else (some (-1)))) = some r := h
 clear h
 replace H := Option.bind_eq_some_iff.mp H
 obtain ⟨t789, A30, H⟩ := H
 replace H : (if t789 = true then ((spec_l12All.f k a0 l1 (([] : List Int)) 0).bind fun t793 => (spec_TreeWeight.l0 k l1 0 t793 0)) else (some (-1))) = some r := H
 have A3 := Aside0.mk A30
 clear A30
 by_cases c4 : t789 = true
 rotate_left
 ·replace c4 := Bool.eq_false_iff.mpr c4
  subst c4
  have H1 : (some (-1)) = some r := by rw [if_neg (show ¬ (false = true) by decide)] at H; exact H
  clear H
  have H := H1
  clear H1
  obtain rfl := Option.some.inj H
  go_enter Try.func86, Try.ntmps86
  go_wp2_with (first | ((with_reducible refine gate_callee (f := 44) rfl ?_); refine goesL_ (some 12) rfl rfl Try.func44 (by kernel_rfl) rfl #[.int .i64 a0, .slice A1 l1.length c1] rfl gs_ ?_; (with_reducible refine (spec_NetValid.calls k a0 _ _ l1 false _ ?side1 ?side2 A3.out).mono ?_); (case side1 => exact cl_ HR1.out); (case side2 => exact HC1.out); rintro e w20 ⟨rfl, hb⟩; refine ⟨_, rfl, ?_⟩; have n0_ := Aside0.mk (below_step (bw_ HB.out) hb); clear HB; have HB := n0_; clear n0_; (try clear hb); (try clear hb2); (try clear hk); (try clear hi)))
  go_ret
  exact ⟨by first | rfl | (simp [errW_none, errW_some] <;> rfl) | (simp [*, errW_none, errW_some] <;> rfl), by repeat (first | (with_reducible first | exact HB.out | apply below_alloc | apply pw_below_drewN | apply below_drew1) | exact HB.out)⟩

 subst c4
 have H1 : ((spec_l12All.f k a0 l1 (([] : List Int)) 0).bind fun t793 => (spec_TreeWeight.l0 k l1 0 t793 0)) = some r := by rw [if_pos rfl] at H; exact H
 clear H
 have H := H1
 clear H1
 obtain ⟨y790, hy790⟩ : ∃ y_ : List Int, y_ = (([] : List Int)) := ⟨_, rfl⟩
 replace H : ((spec_l12All.f k a0 l1 y790 0).bind fun t793 => (spec_TreeWeight.l0 k l1 0 t793 0)) = some r := by first | (rw [hy790]; with_reducible exact H) | (have H2_ := (Option.bind_some _ _).symm.trans H; rw [hy790]; with_reducible exact H2_) | (have H2_ := (Option.bind_some _ _).symm.trans H; with_reducible exact H2_) | with_reducible exact H | (rw [hy790]; exact H) | exact H
 have Ny790 := Aside0.mk hy790
 clear hy790
 replace H := Option.bind_eq_some_iff.mp H
 obtain ⟨t793, A50, H⟩ := H
 replace H : (spec_TreeWeight.l0 k l1 0 t793 0) = some r := H
 have A5 := Aside0.mk A50
 clear A50
 have H' := Aside0.mk H
 clear H
 go_enter Try.func86, Try.ntmps86
 go_wp2_with (first | ((with_reducible refine gate_callee (f := 44) rfl ?_); refine goesL_ (some 12) rfl rfl Try.func44 (by kernel_rfl) rfl #[.int .i64 a0, .slice A1 l1.length c1] rfl gs_ ?_; (with_reducible refine (spec_NetValid.calls k a0 _ _ l1 true _ ?side1 ?side2 A3.out).mono ?_); (case side1 => exact cl_ HR1.out); (case side2 => exact HC1.out); rintro e w6 ⟨rfl, hb⟩; refine ⟨_, rfl, ?_⟩; have n0_ := Aside0.mk (below_step (bw_ HB.out) hb); clear HB; have HB := n0_; clear n0_; (try clear hb); (try clear hb2); (try clear hk); (try clear hi)) | ((with_reducible refine gate_dst (N := 16) rfl ?_); refine Kd.R_lit (Kd.int .i64) _ 3 ?hg (N := 16) ?hd (xs := ([] : List Int)) (inner := []) (ok := fun _ => True) (okp := fun _ => True) ?hr ?hp (fun _ hk => hk) trivial (Below.refl _ _) (Nat.le_refl _) (by simp) ?_; (case hd => rfl); (case hg => rfl); (case hr => first | (go_simp; done) | (go_simp; rfl)); (case hp => exact (Reps.none _ _)); intro v791 w7 ho8 hb hg_ hnew_; clear hg_ hnew_; (first | rw [← Ny790.out] at ho8 | (simp only [Int.reduceToNat] at ho8; rw [← Ny790.out] at ho8)); have n0_ := Aside0.mk (Kd.R_lower ho8 (below_size (bw_ HB.out))); have n1_ := Aside0.mk (below_step (bw_ HB.out) hb); clear HB; have HO792 := n0_; have HB := n1_; clear n0_ n1_; clear hb ho8; obtain ⟨Ao9, co9, eo9⟩ := Kd.R_slice HO792.out; subst eo9) | ((with_reducible refine gate_callee (f := 117) rfl ?_); refine goesL_ (some 17) rfl rfl Try.func117 (by kernel_rfl) rfl #[.int .i64 a0, .slice A1 l1.length c1, .slice Ao9 y790.length co9, .int .i64 0] rfl gs_ ?_; (with_reducible refine (spec_l12All.calls k a0 _ _ l1 _ _ y790 0 t793 _ ?side1 ?side2 ?side3 ?side4 A5.out).mono ?_); (case side1 => exact cl_ (Kd.C_below HR1.out HB.out)); (case side2 => exact HC1.out); (case side3 => exact cl_ (Kd.R_reads' HO792.out).2.2); (case side4 => exact (Kd.R_reads' HO792.out).2.1); rintro e w10 ⟨v794, rfl, ho0, hb⟩; refine ⟨_, rfl, ?_⟩; have n0_ := Aside0.mk (Kd.R_below (rl_ HO792.out) hb); have n1_ := Aside0.mk (Kd.N_lower (Kd.N_mono (ok' := fun k_ => some k_ ≠ (.slice Ao9 y790.length co9 : Value).ownBlock) ho0 (fun k_ hk_ => (Kd.fresh' (Kd.R_lt (rl_ HO792.out)) k_ hk_))) (below_size (bw_ HB.out))); have n2_ := Aside0.mk (below_step (bw_ HB.out) hb); clear HO792; clear HB; have HO792 := n0_; have HO795 := n1_; have HB := n2_; clear n0_ n1_ n2_; (try clear hb); (try clear hb2); (try clear hk); (try clear hi); (try clear ho0)))
 go_loopg [5, 7] k (fun kq v5 v7 w' => ∃ (x5_1 : Int) (x7_1 : Int), v5 = .int .i64 x5_1 ∧ v7 = .int .i64 x7_1 ∧ Aside0 (spec_TreeWeight.l0 kq l1 x5_1 t793 x7_1 = some r) ∧ Aside0 (kq ≤ k) ∧ Aside0 (Kd.N (Kd.slice 3 (Kd.int .i64)) 26 w' w.heap.size (fun _ => True) v794 t793) ∧ Aside0 (Below w.heap.size w w'))
 case atStart => exact ⟨(0), (0), (by first | rfl | (simp; done) | (simp [*]; done)), (by first | rfl | (simp; done) | (simp [*]; done)), H', ⟨Nat.le_refl _⟩, ⟨by (with_reducible repeat (first | apply Kd.N_alloc | apply Kd.N_drewN | apply Kd.N_drew)); exact Kd.N_mono HO795.out (fun _ hk => trivial)⟩, ⟨by repeat (first | (with_reducible first | exact HB.out | apply below_alloc | apply pw_below_drewN | apply below_drew1) | exact HB.out)⟩⟩
 case round =>
  clear H'
  try clear c1; try clear p2; try clear c4; try clear c8
  obtain ⟨x5_1, x7_1, rfl, rfl, HA, HK1, HO_6, HB⟩ := hrel
  cases gk with
  | zero => exact absurd HA.out (by simp [spec_TreeWeight.l0])
  | succ k1 =>
   have H := HA.out
   clear HA
   simp only [spec_TreeWeight.l0] at H
   by_cases c11 : x7_1 < (t793.length : Int)
   rotate_left
   ·rw [if_neg c11] at H
    have c11b0 : decide (x7_1 < (t793.length : Int)) = false := decide_eq_false c11
    clear c11
    obtain rfl := Option.some.inj H
    obtain ⟨Ao19, co19, eo19⟩ := Kd.N_slice HO_6.out
    subst eo19
    go_wp2
    go_ret
    exact ⟨by first | rfl | (simp [errW_none, errW_some] <;> rfl) | (simp [*, errW_none, errW_some] <;> rfl), by repeat (first | (with_reducible first | exact HB.out | apply below_alloc | apply pw_below_drewN | apply below_drew1) | exact HB.out)⟩
   rw [if_pos c11] at H
   have c11b0 : decide (x7_1 < (t793.length : Int)) = true := decide_eq_true c11
   clear c11
   have H' := Aside0.mk H
   clear H
   obtain ⟨Ao12, co12, eo12⟩ := Kd.N_slice HO_6.out
   subst eo12
   go_wp2
   go_loopg [8, 9] k1 (fun kq v8 v9 w' => ∃ (x8_2 : Int) (x9_2 : Int), v8 = .int .i64 x8_2 ∧ v9 = .int .i64 x9_2 ∧ Aside0 (spec_TreeWeight.l1 kq l1 x5_1 t793 x7_1 x8_2 x9_2 = some r) ∧ Aside0 (kq ≤ k1) ∧ Aside0 (Kd.N (Kd.slice 3 (Kd.int .i64)) 26 w' w.heap.size (fun _ => True) (.slice Ao12 t793.length co12) t793) ∧ Aside0 (Below w.heap.size w w'))
   case atStart => exact ⟨(1), (0), (by first | rfl | (simp; done) | (simp [*]; done)), (by first | rfl | (simp; done) | (simp [*]; done)), H', ⟨Nat.le_refl _⟩, ⟨by (with_reducible repeat (first | apply Kd.N_alloc | apply Kd.N_drewN | apply Kd.N_drew)); exact HO_6.out⟩, ⟨by repeat (first | (with_reducible first | exact HB.out | apply below_alloc | apply pw_below_drewN | apply below_drew1) | exact HB.out)⟩⟩
   case round =>
    clear H'
    try clear c1; try clear p2; try clear c4; try clear c8; try clear c11; try clear c11b0; try clear p2
    obtain ⟨x8_2, x9_2, rfl, rfl, HA, HK2, HO_6, HB⟩ := hrel
    cases gk with
    | zero => exact absurd HA.out (by simp [spec_TreeWeight.l1])
    | succ k2 =>
     have H := HA.out
     clear HA
     simp only [spec_TreeWeight.l1] at H
     by_cases c13 : 0 ≤ x7_1
     rotate_left
     ·rw [if_neg c13] at H
      exact absurd H (by simp)
     rw [if_pos c13] at H
     have c13b0 : decide (0 ≤ x7_1) = true := decide_eq_true c13
     clear c13
     by_cases c14 : x7_1 < (t793.length : Int)
     rotate_left
     ·rw [if_neg c14] at H
      exact absurd H (by simp)
     rw [if_pos c14] at H
     have c14b0 : decide (x7_1 < (t793.length : Int)) = true := decide_eq_true c14
     clear c14
     by_cases c15 : x9_2 < ((rd_L4 t793 x7_1).length : Int)
     rotate_left
     ·rw [if_neg c15] at H
      have c15b0 : decide (x9_2 < ((rd_L4 t793 x7_1).length : Int)) = false := decide_eq_false c15
      clear c15
      have H' := Aside0.mk H
      clear H
      have p796 : 0 ≤ (x7_1 : Int) := od_
      have q796 : x7_1 < (t793.length : Int) := od_
      obtain ⟨ad796, A796_0, c796_0, e796, hx796_0, hl796_0, hi796_0⟩ := at_L4 (Kd.N_reads' HO_6.out).2.2 x7_1 p796 q796
      cases e796
      obtain ⟨ce796, hce796, hMe796, hcc796⟩ := Kd.N_get HO_6.out [] x7_1 p796 (by first | exact q796 | exact od_ | (have e_ := (Kd.N_reads' HO_6.out).1; omega))
      obtain ⟨ua796_0, uc796_0, rfl, ul796_0, ge796_0⟩ := Kd.FK_slice_open hMe796
      have hv796_0 := hcc796 0 _ rfl
      rw [Nat.add_zero, show ((Kd.slice 3 (Kd.int .i64))).sz = 1 from rfl, Nat.mul_one] at hv796_0
      replace hv796_0 := Option.some.inj (hv796_0.symm.trans hx796_0)
      injection hv796_0 with hva_ hvn_ hvc_
      rw [hva_] at ge796_0
      rw [hvc_] at ul796_0
      have HL796_0 := Aside0.mk (show Kd.V (Kd.int .i64) 3 _ w.heap.size _ _ (rd_L4 t793 x7_1) from Kd.V_mk ul796_0 ge796_0)
      clear hva_ hvn_ hvc_ ge796_0 ul796_0
      clear hcc796 hce796
      have HR796_0 := Aside0.mk hi796_0
      have HC796_0 := Aside0.mk hl796_0
      clear hi796_0 hl796_0
      replace p796 := eq_true p796
      replace q796 := eq_true q796
      go_wp2
      go_roundg k2
      case measure => have := HK1.out; have := HK2.out; omega
      case rel => exact ⟨(wrap64 (x5_1 + x8_2)), (wrap64 (x7_1 + 1)), (by first | rfl | (simp; done) | (simp [*]; done)), (by first | rfl | (simp; done) | (simp [*]; done)), H', ⟨by have := HK1.out; have := HK2.out; omega⟩, ⟨by (with_reducible repeat (first | apply Kd.N_alloc | apply Kd.N_drewN | apply Kd.N_drew)); exact HO_6.out⟩, ⟨by repeat (first | (with_reducible first | exact HB.out | apply below_alloc | apply pw_below_drewN | apply below_drew1) | exact HB.out)⟩⟩
     rw [if_pos c15] at H
     have c15b0 : decide (x9_2 < ((rd_L4 t793 x7_1).length : Int)) = true := decide_eq_true c15
     clear c15
     by_cases c16 : 0 ≤ x9_2
     rotate_left
     ·rw [if_neg c16] at H
      exact absurd H (by simp)
     rw [if_pos c16] at H
     have c16b0 : decide (0 ≤ x9_2) = true := decide_eq_true c16
     clear c16
     by_cases c17 : 0 ≤ (rd (rd_L4 t793 x7_1) x9_2)
     rotate_left
     ·rw [if_neg c17] at H
      exact absurd H (by simp)
     rw [if_pos c17] at H
     have c17b0 : decide (0 ≤ (rd (rd_L4 t793 x7_1) x9_2)) = true := decide_eq_true c17
     clear c17
     by_cases c18 : (rd (rd_L4 t793 x7_1) x9_2) < (l1.length : Int)
     rotate_left
     ·rw [if_neg c18] at H
      exact absurd H (by simp)
     rw [if_pos c18] at H
     have c18b0 : decide ((rd (rd_L4 t793 x7_1) x9_2) < (l1.length : Int)) = true := decide_eq_true c18
     clear c18
     have H' := Aside0.mk H
     clear H
     have p796 : 0 ≤ (x7_1 : Int) := od_
     have q796 : x7_1 < (t793.length : Int) := od_
     obtain ⟨ad796, A796_0, c796_0, e796, hx796_0, hl796_0, hi796_0⟩ := at_L4 (Kd.N_reads' HO_6.out).2.2 x7_1 p796 q796
     cases e796
     obtain ⟨ce796, hce796, hMe796, hcc796⟩ := Kd.N_get HO_6.out [] x7_1 p796 (by first | exact q796 | exact od_ | (have e_ := (Kd.N_reads' HO_6.out).1; omega))
     obtain ⟨ua796_0, uc796_0, rfl, ul796_0, ge796_0⟩ := Kd.FK_slice_open hMe796
     have hv796_0 := hcc796 0 _ rfl
     rw [Nat.add_zero, show ((Kd.slice 3 (Kd.int .i64))).sz = 1 from rfl, Nat.mul_one] at hv796_0
     replace hv796_0 := Option.some.inj (hv796_0.symm.trans hx796_0)
     injection hv796_0 with hva_ hvn_ hvc_
     rw [hva_] at ge796_0
     rw [hvc_] at ul796_0
     have HL796_0 := Aside0.mk (show Kd.V (Kd.int .i64) 3 _ w.heap.size _ _ (rd_L4 t793 x7_1) from Kd.V_mk ul796_0 ge796_0)
     clear hva_ hvn_ hvc_ ge796_0 ul796_0
     clear hcc796 hce796
     have HR796_0 := Aside0.mk hi796_0
     have HC796_0 := Aside0.mk hl796_0
     clear hi796_0 hl796_0
     replace p796 := eq_true p796
     replace q796 := eq_true q796
     have p797 : 0 ≤ (x7_1 : Int) := od_
     have q797 : x7_1 < (t793.length : Int) := od_
     obtain ⟨ad797, A797_0, c797_0, e797, hx797_0, hl797_0, hi797_0⟩ := at_L4 (Kd.N_reads' HO_6.out).2.2 x7_1 p797 q797
     obtain rfl : ad796 = ad797 := (by injection e797)
     obtain ⟨ce797, hce797, hMe797, hcc797⟩ := Kd.N_get HO_6.out [] x7_1 p797 (by first | exact q797 | exact od_ | (have e_ := (Kd.N_reads' HO_6.out).1; omega))
     obtain ⟨ua797_0, uc797_0, rfl, ul797_0, ge797_0⟩ := Kd.FK_slice_open hMe797
     have hv797_0 := hcc797 0 _ rfl
     rw [Nat.add_zero, show ((Kd.slice 3 (Kd.int .i64))).sz = 1 from rfl, Nat.mul_one] at hv797_0
     replace hv797_0 := Option.some.inj (hv797_0.symm.trans hx797_0)
     injection hv797_0 with hva_ hvn_ hvc_
     rw [hva_] at ge797_0
     rw [hvc_] at ul797_0
     have HL797_0 := Aside0.mk (show Kd.V (Kd.int .i64) 3 _ w.heap.size _ _ (rd_L4 t793 x7_1) from Kd.V_mk ul797_0 ge797_0)
     clear hva_ hvn_ hvc_ ge797_0 ul797_0
     clear hcc797 hce797
     have HR797_0 := Aside0.mk hi797_0
     have HC797_0 := Aside0.mk hl797_0
     clear hi797_0 hl797_0
     replace p797 := eq_true p797
     replace q797 := eq_true q797
     have ea_ := Option.some.inj (hx796_0.symm.trans hx797_0)
     injection ea_ with ea_ en_ ec_
     subst ea_
     subst ec_
     clear en_
     have p798 : 0 ≤ (x9_2 : Int) := od_
     have q798 : x9_2 < ((rd_L4 t793 x7_1).length : Int) := od_
     obtain ⟨ad798, e798, hx798_0⟩ := Kd.at_int (by repeat (first | (with_reducible exact HR797_0.out) | (with_reducible refine Kd.C_alloc ?_ _) | (with_reducible refine Kd.C_drewN ?_ _) | (with_reducible refine Kd.C_drew ?_) | exact HR797_0.out)) x9_2 p798 q798
     cases e798
     replace p798 := eq_true p798
     replace q798 := eq_true q798
     have p799 : 0 ≤ ((rd (rd_L4 t793 x7_1) x9_2) : Int) := od_
     have q799 : (rd (rd_L4 t793 x7_1) x9_2) < (l1.length : Int) := od_
     obtain ⟨ad799, e799, hx799_0, hx799_1, hx799_2, hx799_3⟩ := at_T36 HR1.out (rd (rd_L4 t793 x7_1) x9_2) p799 q799
     cases e799
     replace hx799_0 := up_ HB.out hx799_0
     replace hx799_1 := up_ HB.out hx799_1
     replace hx799_2 := up_ HB.out hx799_2
     replace hx799_3 := up_ HB.out hx799_3
     replace p799 := eq_true p799
     replace q799 := eq_true q799
     go_wp2
     go_roundg k2
     case measure => have := HK1.out; have := HK2.out; omega
     case rel => exact ⟨(wrap64 (x8_2 * ((rd_T36 l1 (rd (rd_L4 t793 x7_1) x9_2)).f3))), (wrap64 (x9_2 + 1)), (by first | rfl | (simp; done) | (simp [*]; done)), (by first | rfl | (simp; done) | (simp [*]; done)), H', ⟨by have := HK1.out; have := HK2.out; omega⟩, ⟨by (with_reducible repeat (first | apply Kd.N_alloc | apply Kd.N_drewN | apply Kd.N_drew)); exact HO_6.out⟩, ⟨by repeat (first | (with_reducible first | exact HB.out | apply below_alloc | apply pw_below_drewN | apply below_drew1) | exact HB.out)⟩⟩
end Go.Proofs.Ytbnndmkkmceenaa.P0
