-- squeezed
-- dedented
-- Written by a program (wip/tools/mkprint.py) over the kit's print.
import Derived.Test.YtbnndmkkmceenaaP2x0
import Derived.Test.YtbnndmkkmceenaaP2x1
import Derived.Test.YtbnndmkkmceenaaP0x60
import Derived.Test.YtbnndmkkmceenaaP1x9
namespace Go.Proofs.Ytbnndmkkmceenaa.P2
open Go.RowKit Go.Proofs.Ytbnndmkkmceenaa.Hand Go.Proofs.Ytbnndmkkmceenaa.P0 Go.Proofs.Ytbnndmkkmceenaa.P1 Go.Proofs.YtbnndmkkmceenaaW.PrintWords Go.Proofs.YtbnndmkkmceenaaW.PrintLast
set_option linter.unusedVariables false
set_option linter.unusedSimpArgs false

/-! ### impl_LoopOf: function 36 -/
def impl_LoopOf.f (k : Nat) (a0 : Int) (l1 : List (S36)) (a2 : Int) : Option (List Int × Bool) := (impl_TreeFirst.f k a0 l1).bind fun bt149 => (if bt149.2 = true then (if a2 < 0 then (some ((([] : List Int)), false)) else (if a2 ≥ (l1.length : Int) then (some ((([] : List Int)), false)) else ((slices_Contains_int_int.f k bt149.1 a2).bind fun t159 => (if t159 = true then (some ((([] : List Int)), false)) else ((some (([wrap64 (a2 + 1)] : List Int) : List Int)).bind fun y163 => (if 0 ≤ a2 then (if a2 < (l1.length : Int) then ((impl_treeWay.f k l1 bt149.1 ((rd_T36 l1 a2).f1) ((rd_T36 l1 a2).f0)).bind fun t168 => (if y163.length + t168.length < 17592186044416 then (some ((y163 ++ t168), true)) else (none))) else (none)) else (none))))))) else (some ((([] : List Int)), false)))
def impl_LoopOf.T4 : Bool × List (List Nat × List Nat) := (true, [([], []), ([0], [0]), ([1], [1]), ([], []), ([], []), ([], []), ([], []), ([5, 6], [5, 6]), ([7], [7]), ([8], [8]), ([], []), ([], []), ([10, 11], [10, 11]), ([12], [12]), ([13], [13]), ([3, 4, 9, 14], [3, 4, 9, 14]), ([2, 15, 15], [2, 15]), ([16, 16, 0, 1, 2, 3, 4, 5, 6, 7, 8, 9, 10, 11, 12, 13, 14, 15, 16], [16]), ([17, 0, 1, 2, 3, 4, 5, 6, 7, 8, 9, 10, 11, 12, 13, 14, 15, 16, 17], [])])
def impl_LoopOf.B4 : List Nat := [0, 1, 3, 0, 0, 0, 0, 96, 224, 480, 0, 0, 3072, 7168, 15360, 32760, 65535, 131071, 262143]
theorem impl_LoopOf.tab4 : rtab .any (opsOf Try.f36 4) = impl_LoopOf.T4 := by kernel_rfl
theorem impl_LoopOf.bits4 : waitsOk impl_LoopOf.T4.2 impl_LoopOf.B4 = true := by kernel_rfl
set_option maxHeartbeats 8000000 in
set_option maxRecDepth 100000 in
theorem impl_LoopOf.calls (k : Nat) (a0 : Int) (A1 : Option Addr) (c1 : Nat) (l1 : List (S36)) (a2 : Int) (r1 : List Int) (r2 : Bool) (w : World) (hr1 : Kd.C k36 w A1 l1.length l1) (hc1 : l1.length ≤ c1) (h : impl_LoopOf.f k a0 l1 a2 = some (r1, r2)) :
  Calls Try.prog 36 #[.int .i64 a0, .slice A1 l1.length c1, .int .i64 a2] w fun e w' => ∃ v0_ : Value, e = .returned (.tuple #[v0_, .bool r2]) ∧ Kd.R (Kd.int .i64) 3 w' w.heap.size (fun _ => True) v0_ r1 ∧ Below w.heap.size w w' := by
 have HR1 := Aside0.mk hr1
 have HC1 := Aside0.mk hc1
 clear hr1 hc1
 have HB := Aside0.mk (Below.refl w.heap.size w)
 have H : ((impl_TreeFirst.f k a0 l1).bind fun bt149 => (if bt149.2 = true then (if a2 < 0 then (some ((([] : List Int)), false)) else (if a2 ≥ (l1.length : Int) then (some ((([] : List Int)), false)) else ((slices_Contains_int_int.f k bt149.1 a2).bind fun t159 => (if t159 = true then (some ((([] : List Int)), false)) else ((some (([wrap64 (a2 + 1)] : List Int) : List Int)).bind fun y163 => (if 0 ≤ a2 then (if a2 < (l1.length : Int) then ((impl_treeWay.f k l1 bt149.1 ((rd_T36 l1 a2).f1) ((rd_T36 l1 a2).f0)).bind fun t168 => (if y163.length + t168.length < 17592186044416 then (some ((y163 ++ t168), true)) else (none))) else (none)) else (none))))))) else (some ((([] : List Int)), false)))) = some (r1, r2) := h
 clear h
 replace H := Option.bind_eq_some_iff.mp H
 obtain ⟨⟨t149, t150⟩, A40, H⟩ := H
 replace H : (if t150 = true then (if a2 < 0 then (some ((([] : List Int)), false)) else (if a2 ≥ (l1.length : Int) then (some ((([] : List Int)), false)) else ((slices_Contains_int_int.f k t149 a2).bind fun t159 => (if t159 = true then (some ((([] : List Int)), false)) else ((some (([wrap64 (a2 + 1)] : List Int) : List Int)).bind fun y163 => (if 0 ≤ a2 then (if a2 < (l1.length : Int) then ((impl_treeWay.f k l1 t149 ((rd_T36 l1 a2).f1) ((rd_T36 l1 a2).f0)).bind fun t168 => (if y163.length + t168.length < 17592186044416 then (some ((y163 ++ t168), true)) else (none))) else (none)) else (none))))))) else (some ((([] : List Int)), false))) = some (r1, r2) := H
 have A4 := Aside0.mk A40
 clear A40
 by_cases c5 : t150 = true
 rotate_left
 ·replace c5 := Bool.eq_false_iff.mpr c5
  subst c5
  have H1 : (some ((([] : List Int)), false)) = some (r1, r2) := by rw [if_neg (show ¬ (false = true) by decide)] at H; exact H
  clear H
  have H := H1
  clear H1
  obtain ⟨y174, hy174⟩ : ∃ y_ : List Int, y_ = (([] : List Int)) := ⟨_, rfl⟩
  replace H : (some (y174, false)) = some (r1, r2) := by first | (rw [hy174]; with_reducible exact H) | (have H2_ := (Option.bind_some _ _).symm.trans H; rw [hy174]; with_reducible exact H2_) | (have H2_ := (Option.bind_some _ _).symm.trans H; with_reducible exact H2_) | with_reducible exact H | (rw [hy174]; exact H) | exact H
  have Ny174 := Aside0.mk hy174
  clear hy174
  simp only [Option.some.injEq, Prod.mk.injEq] at H
  obtain ⟨rfl, rfl⟩ := H
  go_enter Try.func36, Try.ntmps36
  go_wp2_with (first | ((with_reducible refine gate_callee (f := 39) rfl ?_); refine goesL_ (some 13) rfl rfl Try.func39 (by kernel_rfl) rfl #[.int .i64 a0, .slice A1 l1.length c1] rfl gs_ ?_; (with_reducible refine (impl_TreeFirst.calls k a0 _ _ l1 t149 false _ ?side1 ?side2 A4.out).mono ?_); (case side1 => exact cl_ HR1.out); (case side2 => exact HC1.out); rintro e w33 ⟨v151, rfl, ho0, hb⟩; refine ⟨_, rfl, ?_⟩; have n0_ := Aside0.mk (Kd.R_lower ho0 (below_size (bw_ HB.out))); have n1_ := Aside0.mk (below_step (bw_ HB.out) hb); clear HB; have HO152 := n0_; have HB := n1_; clear n0_ n1_; (try clear hb); (try clear hb2); (try clear hk); (try clear hi); (try clear ho0)) | ((with_reducible refine gate_dst (N := 33) rfl ?_); refine Kd.R_lit (Kd.int .i64) _ 3 ?hg (N := 33) ?hd (xs := ([] : List Int)) (inner := []) (ok := fun _ => True) (okp := fun _ => True) ?hr ?hp (fun _ hk => hk) trivial (Below.refl _ _) (Nat.le_refl _) (by simp) ?_; (case hd => rfl); (case hg => rfl); (case hr => first | (go_simp; done) | (go_simp; rfl)); (case hp => exact (Reps.none _ _)); intro v175 w34 ho35 hb hg_ hnew_; clear hg_ hnew_; (first | rw [← Ny174.out] at ho35 | (simp only [Int.reduceToNat] at ho35; rw [← Ny174.out] at ho35)); have n0_ := Aside0.mk (Kd.R_elder' (rl_ HO152.out) (Kd.R_base ho35) hb); have n1_ := Aside0.mk (Kd.R_lower (Kd.R_new' ho35 (Kd.R_lt (rl_ HO152.out))) (below_size (bw_ HB.out))); have n2_ := Aside0.mk (below_step (bw_ HB.out) hb); clear HO152; clear HB; have HO152 := n0_; have HO176 := n1_; have HB := n2_; clear n0_ n1_ n2_; clear hb ho35))
  go_ret2
  exact ⟨_, by first | rfl | (simp [errW_none, errW_some] <;> rfl) | (simp [*, errW_none, errW_some] <;> rfl), by (with_reducible repeat (first | apply Kd.R_alloc | apply Kd.R_drewN | apply Kd.R_drew)); exact Kd.R_mono HO176.out (fun _ hk => trivial), by repeat (first | (with_reducible first | exact HB.out | apply below_alloc | apply pw_below_drewN | apply below_drew1) | exact HB.out)⟩

 subst c5
 have H1 : (if a2 < 0 then (some ((([] : List Int)), false)) else (if a2 ≥ (l1.length : Int) then (some ((([] : List Int)), false)) else ((slices_Contains_int_int.f k t149 a2).bind fun t159 => (if t159 = true then (some ((([] : List Int)), false)) else ((some (([wrap64 (a2 + 1)] : List Int) : List Int)).bind fun y163 => (if 0 ≤ a2 then (if a2 < (l1.length : Int) then ((impl_treeWay.f k l1 t149 ((rd_T36 l1 a2).f1) ((rd_T36 l1 a2).f0)).bind fun t168 => (if y163.length + t168.length < 17592186044416 then (some ((y163 ++ t168), true)) else (none))) else (none)) else (none))))))) = some (r1, r2) := by rw [if_pos rfl] at H; exact H
 clear H
 have H := H1
 clear H1
 by_cases c6 : a2 < 0
 ·rw [if_pos c6] at H
  have c6b0 : decide (a2 < 0) = true := decide_eq_true c6
  clear c6
  obtain ⟨y153, hy153⟩ : ∃ y_ : List Int, y_ = (([] : List Int)) := ⟨_, rfl⟩
  replace H : (some (y153, false)) = some (r1, r2) := by first | (rw [hy153]; with_reducible exact H) | (have H2_ := (Option.bind_some _ _).symm.trans H; rw [hy153]; with_reducible exact H2_) | (have H2_ := (Option.bind_some _ _).symm.trans H; with_reducible exact H2_) | with_reducible exact H | (rw [hy153]; exact H) | exact H
  have Ny153 := Aside0.mk hy153
  clear hy153
  simp only [Option.some.injEq, Prod.mk.injEq] at H
  obtain ⟨rfl, rfl⟩ := H
  go_enter Try.func36, Try.ntmps36
  go_wp2_with (first | ((with_reducible refine gate_callee (f := 39) rfl ?_); refine goesL_ (some 13) rfl rfl Try.func39 (by kernel_rfl) rfl #[.int .i64 a0, .slice A1 l1.length c1] rfl gs_ ?_; (with_reducible refine (impl_TreeFirst.calls k a0 _ _ l1 t149 true _ ?side1 ?side2 A4.out).mono ?_); (case side1 => exact cl_ HR1.out); (case side2 => exact HC1.out); rintro e w7 ⟨v151, rfl, ho0, hb⟩; refine ⟨_, rfl, ?_⟩; have n0_ := Aside0.mk (Kd.R_lower ho0 (below_size (bw_ HB.out))); have n1_ := Aside0.mk (below_step (bw_ HB.out) hb); clear HB; have HO152 := n0_; have HB := n1_; clear n0_ n1_; (try clear hb); (try clear hb2); (try clear hk); (try clear hi); (try clear ho0)) | ((with_reducible refine gate_dst (N := 33) rfl ?_); refine Kd.R_lit (Kd.int .i64) _ 3 ?hg (N := 33) ?hd (xs := ([] : List Int)) (inner := []) (ok := fun _ => True) (okp := fun _ => True) ?hr ?hp (fun _ hk => hk) trivial (Below.refl _ _) (Nat.le_refl _) (by simp) ?_; (case hd => rfl); (case hg => rfl); (case hr => first | (go_simp; done) | (go_simp; rfl)); (case hp => exact (Reps.none _ _)); intro v154 w8 ho9 hb hg_ hnew_; clear hg_ hnew_; (first | rw [← Ny153.out] at ho9 | (simp only [Int.reduceToNat] at ho9; rw [← Ny153.out] at ho9)); have n0_ := Aside0.mk (Kd.R_elder' (rl_ HO152.out) (Kd.R_base ho9) hb); have n1_ := Aside0.mk (Kd.R_lower (Kd.R_new' ho9 (Kd.R_lt (rl_ HO152.out))) (below_size (bw_ HB.out))); have n2_ := Aside0.mk (below_step (bw_ HB.out) hb); clear HO152; clear HB; have HO152 := n0_; have HO155 := n1_; have HB := n2_; clear n0_ n1_ n2_; clear hb ho9))
  go_ret2
  exact ⟨_, by first | rfl | (simp [errW_none, errW_some] <;> rfl) | (simp [*, errW_none, errW_some] <;> rfl), by (with_reducible repeat (first | apply Kd.R_alloc | apply Kd.R_drewN | apply Kd.R_drew)); exact Kd.R_mono HO155.out (fun _ hk => trivial), by repeat (first | (with_reducible first | exact HB.out | apply below_alloc | apply pw_below_drewN | apply below_drew1) | exact HB.out)⟩
 rw [if_neg c6] at H
 have c6b0 : decide (a2 < 0) = false := decide_eq_false c6
 clear c6
 by_cases c10 : a2 ≥ (l1.length : Int)
 ·rw [if_pos c10] at H
  have c10b0 : decide ((l1.length : Int) ≤ a2) = true := decide_eq_true c10
  clear c10
  obtain ⟨y156, hy156⟩ : ∃ y_ : List Int, y_ = (([] : List Int)) := ⟨_, rfl⟩
  replace H : (some (y156, false)) = some (r1, r2) := by first | (rw [hy156]; with_reducible exact H) | (have H2_ := (Option.bind_some _ _).symm.trans H; rw [hy156]; with_reducible exact H2_) | (have H2_ := (Option.bind_some _ _).symm.trans H; with_reducible exact H2_) | with_reducible exact H | (rw [hy156]; exact H) | exact H
  have Ny156 := Aside0.mk hy156
  clear hy156
  simp only [Option.some.injEq, Prod.mk.injEq] at H
  obtain ⟨rfl, rfl⟩ := H
  go_enter Try.func36, Try.ntmps36
  go_wp2_with (first | ((with_reducible refine gate_callee (f := 39) rfl ?_); refine goesL_ (some 13) rfl rfl Try.func39 (by kernel_rfl) rfl #[.int .i64 a0, .slice A1 l1.length c1] rfl gs_ ?_; (with_reducible refine (impl_TreeFirst.calls k a0 _ _ l1 t149 true _ ?side1 ?side2 A4.out).mono ?_); (case side1 => exact cl_ HR1.out); (case side2 => exact HC1.out); rintro e w11 ⟨v151, rfl, ho0, hb⟩; refine ⟨_, rfl, ?_⟩; have n0_ := Aside0.mk (Kd.R_lower ho0 (below_size (bw_ HB.out))); have n1_ := Aside0.mk (below_step (bw_ HB.out) hb); clear HB; have HO152 := n0_; have HB := n1_; clear n0_ n1_; (try clear hb); (try clear hb2); (try clear hk); (try clear hi); (try clear ho0)) | ((with_reducible refine gate_dst (N := 33) rfl ?_); refine Kd.R_lit (Kd.int .i64) _ 3 ?hg (N := 33) ?hd (xs := ([] : List Int)) (inner := []) (ok := fun _ => True) (okp := fun _ => True) ?hr ?hp (fun _ hk => hk) trivial (Below.refl _ _) (Nat.le_refl _) (by simp) ?_; (case hd => rfl); (case hg => rfl); (case hr => first | (go_simp; done) | (go_simp; rfl)); (case hp => exact (Reps.none _ _)); intro v157 w12 ho13 hb hg_ hnew_; clear hg_ hnew_; (first | rw [← Ny156.out] at ho13 | (simp only [Int.reduceToNat] at ho13; rw [← Ny156.out] at ho13)); have n0_ := Aside0.mk (Kd.R_elder' (rl_ HO152.out) (Kd.R_base ho13) hb); have n1_ := Aside0.mk (Kd.R_lower (Kd.R_new' ho13 (Kd.R_lt (rl_ HO152.out))) (below_size (bw_ HB.out))); have n2_ := Aside0.mk (below_step (bw_ HB.out) hb); clear HO152; clear HB; have HO152 := n0_; have HO158 := n1_; have HB := n2_; clear n0_ n1_ n2_; clear hb ho13))
  go_ret2
  exact ⟨_, by first | rfl | (simp [errW_none, errW_some] <;> rfl) | (simp [*, errW_none, errW_some] <;> rfl), by (with_reducible repeat (first | apply Kd.R_alloc | apply Kd.R_drewN | apply Kd.R_drew)); exact Kd.R_mono HO158.out (fun _ hk => trivial), by repeat (first | (with_reducible first | exact HB.out | apply below_alloc | apply pw_below_drewN | apply below_drew1) | exact HB.out)⟩
 rw [if_neg c10] at H
 have c10b0 : decide ((l1.length : Int) ≤ a2) = false := decide_eq_false c10
 clear c10
 replace H := Option.bind_eq_some_iff.mp H
 obtain ⟨t159, A140, H⟩ := H
 replace H : (if t159 = true then (some ((([] : List Int)), false)) else ((some (([wrap64 (a2 + 1)] : List Int) : List Int)).bind fun y163 => (if 0 ≤ a2 then (if a2 < (l1.length : Int) then ((impl_treeWay.f k l1 t149 ((rd_T36 l1 a2).f1) ((rd_T36 l1 a2).f0)).bind fun t168 => (if y163.length + t168.length < 17592186044416 then (some ((y163 ++ t168), true)) else (none))) else (none)) else (none)))) = some (r1, r2) := H
 have A14 := Aside0.mk A140
 clear A140
 by_cases c15 : t159 = true
 ·subst c15
  have H1 : (some ((([] : List Int)), false)) = some (r1, r2) := by rw [if_pos rfl] at H; exact H
  clear H
  have H := H1
  clear H1
  obtain ⟨y160, hy160⟩ : ∃ y_ : List Int, y_ = (([] : List Int)) := ⟨_, rfl⟩
  replace H : (some (y160, false)) = some (r1, r2) := by first | (rw [hy160]; with_reducible exact H) | (have H2_ := (Option.bind_some _ _).symm.trans H; rw [hy160]; with_reducible exact H2_) | (have H2_ := (Option.bind_some _ _).symm.trans H; with_reducible exact H2_) | with_reducible exact H | (rw [hy160]; exact H) | exact H
  have Ny160 := Aside0.mk hy160
  clear hy160
  simp only [Option.some.injEq, Prod.mk.injEq] at H
  obtain ⟨rfl, rfl⟩ := H
  go_enter Try.func36, Try.ntmps36
  go_wp2_with (first | ((with_reducible refine gate_callee (f := 39) rfl ?_); refine goesL_ (some 13) rfl rfl Try.func39 (by kernel_rfl) rfl #[.int .i64 a0, .slice A1 l1.length c1] rfl gs_ ?_; (with_reducible refine (impl_TreeFirst.calls k a0 _ _ l1 t149 true _ ?side1 ?side2 A4.out).mono ?_); (case side1 => exact cl_ HR1.out); (case side2 => exact HC1.out); rintro e w16 ⟨v151, rfl, ho0, hb⟩; refine ⟨_, rfl, ?_⟩; have n0_ := Aside0.mk (Kd.R_lower ho0 (below_size (bw_ HB.out))); have n1_ := Aside0.mk (below_step (bw_ HB.out) hb); clear HB; have HO152 := n0_; have HB := n1_; clear n0_ n1_; (try clear hb); (try clear hb2); (try clear hk); (try clear hi); (try clear ho0); obtain ⟨Ao17, co17, eo17⟩ := Kd.R_slice HO152.out; subst eo17) | (go_at_call 99; (with_reducible refine (slices_Contains_int_int.calls k _ _ t149 a2 true _ ?side1 ?side2 A14.out).mono ?_); (case side1 => exact cl_ (Kd.R_reads' HO152.out).2.2); (case side2 => exact (Kd.R_reads' HO152.out).2.1); rintro e w' ⟨rfl, ⟨nd, rfl⟩⟩) | ((with_reducible refine gate_dst (N := 33) rfl ?_); refine Kd.R_lit (Kd.int .i64) _ 3 ?hg (N := 33) ?hd (xs := ([] : List Int)) (inner := []) (ok := fun _ => True) (okp := fun _ => True) ?hr ?hp (fun _ hk => hk) trivial (Below.refl _ _) (Nat.le_refl _) (by simp) ?_; (case hd => rfl); (case hg => rfl); (case hr => first | (go_simp; done) | (go_simp; rfl)); (case hp => exact (Reps.none _ _)); intro v161 w18 ho19 hb hg_ hnew_; clear hg_ hnew_; (first | rw [← Ny160.out] at ho19 | (simp only [Int.reduceToNat] at ho19; rw [← Ny160.out] at ho19)); have n0_ := Aside0.mk (Kd.R_elder' (rl_ HO152.out) (Kd.R_base ho19) hb); have n1_ := Aside0.mk (Kd.R_lower (Kd.R_new' ho19 (Kd.R_lt (rl_ HO152.out))) (below_size (bw_ HB.out))); have n2_ := Aside0.mk (below_step (bw_ HB.out) hb); clear HO152; clear HB; have HO152 := n0_; have HO162 := n1_; have HB := n2_; clear n0_ n1_ n2_; clear hb ho19))
  go_ret2
  exact ⟨_, by first | rfl | (simp [errW_none, errW_some] <;> rfl) | (simp [*, errW_none, errW_some] <;> rfl), by (with_reducible repeat (first | apply Kd.R_alloc | apply Kd.R_drewN | apply Kd.R_drew)); exact Kd.R_mono HO162.out (fun _ hk => trivial), by repeat (first | (with_reducible first | exact HB.out | apply below_alloc | apply pw_below_drewN | apply below_drew1) | exact HB.out)⟩
 replace c15 := Bool.eq_false_iff.mpr c15
 subst c15
 have H1 : ((some (([wrap64 (a2 + 1)] : List Int) : List Int)).bind fun y163 => (if 0 ≤ a2 then (if a2 < (l1.length : Int) then ((impl_treeWay.f k l1 t149 ((rd_T36 l1 a2).f1) ((rd_T36 l1 a2).f0)).bind fun t168 => (if y163.length + t168.length < 17592186044416 then (some ((y163 ++ t168), true)) else (none))) else (none)) else (none))) = some (r1, r2) := by rw [if_neg (show ¬ (false = true) by decide)] at H; exact H
 clear H
 have H := H1
 clear H1
 obtain ⟨y163, hy163⟩ : ∃ y_ : List Int, y_ = (([wrap64 (a2 + 1)] : List Int)) := ⟨_, rfl⟩
 replace H : (if 0 ≤ a2 then (if a2 < (l1.length : Int) then ((impl_treeWay.f k l1 t149 ((rd_T36 l1 a2).f1) ((rd_T36 l1 a2).f0)).bind fun t168 => (if y163.length + t168.length < 17592186044416 then (some ((y163 ++ t168), true)) else (none))) else (none)) else (none)) = some (r1, r2) := by first | (rw [hy163]; with_reducible exact H) | (have H2_ := (Option.bind_some _ _).symm.trans H; rw [hy163]; with_reducible exact H2_) | (have H2_ := (Option.bind_some _ _).symm.trans H; with_reducible exact H2_) | with_reducible exact H | (rw [hy163]; exact H) | exact H
 have Ny163 := Aside0.mk hy163
 clear hy163
 by_cases c20 : 0 ≤ a2
 rotate_left
 ·rw [if_neg c20] at H
  exact absurd H (by simp)
 rw [if_pos c20] at H
 have c20b0 : decide (0 ≤ a2) = true := decide_eq_true c20
 clear c20
 by_cases c21 : a2 < (l1.length : Int)
 rotate_left
 ·rw [if_neg c21] at H
  exact absurd H (by simp)
 rw [if_pos c21] at H
 have c21b0 : decide (a2 < (l1.length : Int)) = true := decide_eq_true c21
 clear c21
 replace H := Option.bind_eq_some_iff.mp H
 obtain ⟨t168, A220, H⟩ := H
 replace H : (if y163.length + t168.length < 17592186044416 then (some ((y163 ++ t168), true)) else (none)) = some (r1, r2) := H
 have A22 := Aside0.mk A220
 clear A220
 by_cases c23 : y163.length + t168.length < 17592186044416
 rotate_left
 ·rw [if_neg c23] at H
  exact absurd H (by simp)
 rw [if_pos c23] at H
 have LMc23 := Aside0.mk c23
 clear c23
 obtain ⟨y171, hy171⟩ : ∃ y_ : List Int, y_ = (y163 ++ t168) := ⟨_, rfl⟩
 replace H : (some (y171, true)) = some (r1, r2) := by first | (rw [hy171]; with_reducible exact H) | (have H2_ := (Option.bind_some _ _).symm.trans H; rw [hy171]; with_reducible exact H2_) | (have H2_ := (Option.bind_some _ _).symm.trans H; with_reducible exact H2_) | with_reducible exact H | (rw [hy171]; exact H) | exact H
 have Ny171 := Aside0.mk hy171
 clear hy171
 simp only [Option.some.injEq, Prod.mk.injEq] at H
 obtain ⟨rfl, rfl⟩ := H
 go_enter Try.func36, Try.ntmps36
 try go_wp2_with (first | ((with_reducible refine gate_callee (f := 39) rfl ?_); refine goesL_ (some 13) rfl rfl Try.func39 (by kernel_rfl) rfl #[.int .i64 a0, .slice A1 l1.length c1] rfl gs_ ?_; (with_reducible refine (impl_TreeFirst.calls k a0 _ _ l1 t149 true _ ?side1 ?side2 A4.out).mono ?_); (case side1 => exact cl_ HR1.out); (case side2 => exact HC1.out); rintro e w24 ⟨v151, rfl, ho0, hb⟩; refine ⟨_, rfl, ?_⟩; have n0_ := Aside0.mk (Kd.R_lower ho0 (below_size (bw_ HB.out))); have n1_ := Aside0.mk (below_step (bw_ HB.out) hb); clear HB; have HO152 := n0_; have HB := n1_; clear n0_ n1_; (try clear hb); (try clear hb2); (try clear hk); (try clear hi); (try clear ho0); obtain ⟨Ao25, co25, eo25⟩ := Kd.R_slice HO152.out; subst eo25) | (go_at_call 99; (with_reducible refine (slices_Contains_int_int.calls k _ _ t149 a2 false _ ?side1 ?side2 A14.out).mono ?_); (case side1 => exact cl_ (Kd.R_reads' HO152.out).2.2); (case side2 => exact (Kd.R_reads' HO152.out).2.1); rintro e w' ⟨rfl, ⟨nd, rfl⟩⟩))
 (try (rw [drewN_self w24]; generalize hq_ : World.drewN w24 _ = w24; have n0_ : Aside0 (Kd.R (Kd.int .i64) 3 w24 w.heap.size (fun _ => True) (.slice Ao25 t149.length co25) t149) := ⟨by rw [← hq_]; exact (rl_ HO152.out)⟩; have n1_ : Aside0 (Below w.heap.size w w24) := ⟨by rw [← hq_]; exact (bw_ HB.out)⟩; clear HO152 HB hq_; have HO152 := n0_; have HB := n1_; clear n0_ n1_))
 have n0_ := Aside0.mk (Kd.R_drew HO152.out)
 have n1_ := Aside0.mk (below_drew1 HB.out)
 clear HO152
 clear HB
 have HO152 := n0_
 have HB := n1_
 clear n0_ n1_
 have p166 : 0 ≤ (a2 : Int) := od_
 have q166 : a2 < (l1.length : Int) := od_
 obtain ⟨ad166, e166, hx166_0, hx166_1, hx166_2, hx166_3⟩ := at_T36 HR1.out a2 p166 q166
 have hw166_3 := hx166_3
 have hw166_2 := hx166_2
 have hw166_1 := hx166_1
 have hw166_0 := hx166_0
 cases e166
 replace hx166_0 := up_ HB.out hx166_0
 replace hx166_1 := up_ HB.out hx166_1
 replace hx166_2 := up_ HB.out hx166_2
 replace hx166_3 := up_ HB.out hx166_3
 replace p166 := eq_true p166
 replace q166 := eq_true q166
 have p167 : 0 ≤ (a2 : Int) := od_
 have q167 : a2 < (l1.length : Int) := od_
 obtain ⟨ad167, e167, hx167_0, hx167_1, hx167_2, hx167_3⟩ := at_T36 HR1.out a2 p167 q167
 have hw167_3 := hx167_3
 have hw167_2 := hx167_2
 have hw167_1 := hx167_1
 have hw167_0 := hx167_0
 obtain rfl : ad166 = ad167 := (by injection e167)
 replace hx167_0 := up_ HB.out hx167_0
 replace hx167_1 := up_ HB.out hx167_1
 replace hx167_2 := up_ HB.out hx167_2
 replace hx167_3 := up_ HB.out hx167_3
 replace p167 := eq_true p167
 replace q167 := eq_true q167
 refine start_ (n := 19) (S := fun w' => w'.cell? (ad166.add ((a2).toNat * 4)) = some (.int .i64 ((rd_T36 l1 a2).f0)) ∧ w'.cell? ⟨(ad166.add ((a2).toNat * 4)).block, (ad166.add ((a2).toNat * 4)).off + 1, none⟩ = some (.int .i64 ((rd_T36 l1 a2).f1)) ∧ w'.cell? ⟨(ad166.add ((a2).toNat * 4)).block, (ad166.add ((a2).toNat * 4)).off + 2, none⟩ = some (.int .i64 ((rd_T36 l1 a2).f2)) ∧ w'.cell? ⟨(ad166.add ((a2).toNat * 4)).block, (ad166.add ((a2).toNat * 4)).off + 3, none⟩ = some (.int .i64 ((rd_T36 l1 a2).f3)) ∧ w'.cell? (ad166.add ((a2).toNat * 4)) = some (.int .i64 ((rd_T36 l1 a2).f0)) ∧ w'.cell? ⟨(ad166.add ((a2).toNat * 4)).block, (ad166.add ((a2).toNat * 4)).off + 1, none⟩ = some (.int .i64 ((rd_T36 l1 a2).f1)) ∧ w'.cell? ⟨(ad166.add ((a2).toNat * 4)).block, (ad166.add ((a2).toNat * 4)).off + 2, none⟩ = some (.int .i64 ((rd_T36 l1 a2).f2)) ∧ w'.cell? ⟨(ad166.add ((a2).toNat * 4)).block, (ad166.add ((a2).toNat * 4)).off + 3, none⟩ = some (.int .i64 ((rd_T36 l1 a2).f3))) (ds := []) #[false, false, false, false, false, false, false, false, false, false, false, false, false, false, false, false, false, false, false] (by kernel_rfl) rfl rfl ⟨(up_ HB.out hw166_0), (up_ HB.out hw166_1), (up_ HB.out hw166_2), (up_ HB.out hw166_3), (up_ HB.out hw167_0), (up_ HB.out hw167_1), (up_ HB.out hw167_2), (up_ HB.out hw167_3)⟩ (fun hHeld => ?_); refine with_tabW impl_LoopOf.tab4 impl_LoopOf.bits4 (fun HT_ HW_ => ?_)
 generalize w24.drew = w26 at HO152 HB hx166_0 hx166_1 hx166_2 hx166_3 hx167_0 hx167_1 hx167_2 hx167_3 hHeld ⊢
 refine pure_ (i := 0) (N := some 34) (v := ?_) (a' := ?_) #[true, false, false, false, false, false, false, false, false, false, false, false, false, false, false, false, false, false, false] rfl rfl (any_of HT_.out (by kernel_rfl)) (fun _ _ _ h => h) (Or.inl ⟨by rfl, ?_⟩) ?_ ?_
 rotate_left
 ·intro w'
  go_simp
  with_reducible rfl
 rotate_left
 ·simp only [Act.put, List.setIfInBounds_toArray, List.set_cons_zero, List.set_cons_succ, i64_w, i32_w]
  rfl
 refine pure_ (i := 1) (N := some 35) (v := ?_) (a' := ?_) #[true, true, false, false, false, false, false, false, false, false, false, false, false, false, false, false, false, false, false] rfl rfl (any_of HT_.out (by kernel_rfl)) (fun _ _ _ h => h) (Or.inl ⟨by rfl, ?_⟩) ?_ ?_
 rotate_left
 ·intro w'
  go_simp
  with_reducible rfl
 rotate_left
 ·simp only [Act.put, List.setIfInBounds_toArray, List.set_cons_zero, List.set_cons_succ, i64_w, i32_w]
  rfl
 refine pure_ (i := 3) (N := some 37) (v := ?_) (a' := ?_) #[true, true, false, true, false, false, false, false, false, false, false, false, false, false, false, false, false, false, false] rfl rfl (any_of HT_.out (by kernel_rfl)) (fun _ _ _ h => h) (Or.inl ⟨by rfl, ?_⟩) ?_ ?_
 rotate_left
 ·intro w'
  go_simp
  with_reducible rfl
 rotate_left
 ·simp only [Act.put, List.setIfInBounds_toArray, List.set_cons_zero, List.set_cons_succ, i64_w, i32_w]
  rfl
 refine pure_ (i := 4) (N := some 38) (v := ?_) (a' := ?_) #[true, true, false, true, true, false, false, false, false, false, false, false, false, false, false, false, false, false, false] rfl rfl (any_of HT_.out (by kernel_rfl)) (fun _ _ _ h => h) (Or.inl ⟨by rfl, ?_⟩) ?_ ?_
 rotate_left
 ·intro w'
  go_simp
  with_reducible rfl
 rotate_left
 ·simp only [Act.put, List.setIfInBounds_toArray, List.set_cons_zero, List.set_cons_succ, i64_w, i32_w]
  rfl
 refine pure_ (i := 5) (N := some 39) (v := ?_) (a' := ?_) #[true, true, false, true, true, true, false, false, false, false, false, false, false, false, false, false, false, false, false] rfl rfl (any_of HT_.out (by kernel_rfl)) (fun _ _ _ h => h) (Or.inl ⟨by rfl, ?_⟩) ?_ ?_
 rotate_left
 ·intro w'
  go_simp
  with_reducible rfl
 rotate_left
 ·simp only [Act.put, List.setIfInBounds_toArray, List.set_cons_zero, List.set_cons_succ, i64_w, i32_w]
  rfl
 refine pure_ (i := 6) (N := some 40) (v := ?_) (a' := ?_) #[true, true, false, true, true, true, true, false, false, false, false, false, false, false, false, false, false, false, false] rfl rfl (any_of HT_.out (by kernel_rfl)) (fun _ _ _ h => h) (Or.inl ⟨by rfl, ?_⟩) ?_ ?_
 rotate_left
 ·intro w'
  go_simp
  with_reducible rfl
 rotate_left
 ·simp only [Act.put, List.setIfInBounds_toArray, List.set_cons_zero, List.set_cons_succ, i64_w, i32_w]
  rfl
 refine pure_ (i := 7) (N := some 41) (v := ?_) (a' := ?_) #[true, true, false, true, true, true, true, true, false, false, false, false, false, false, false, false, false, false, false] rfl rfl (any_of HT_.out (by kernel_rfl)) (fun _ _ _ h => h) (Or.inl ⟨by rfl, ?_⟩) ?_ ?_
 rotate_left
 ·intro w'
  go_simp
  with_reducible rfl
 rotate_left
 ·simp only [Act.put, List.setIfInBounds_toArray, List.set_cons_zero, List.set_cons_succ, i64_w, i32_w]
  rfl
 refine pure_ (i := 8) (N := some 42) (v := ?_) (a' := ?_) #[true, true, false, true, true, true, true, true, true, false, false, false, false, false, false, false, false, false, false] rfl rfl (any_of HT_.out (by kernel_rfl)) (fun _ _ _ h => h) (Or.inl ⟨by rfl, ?_⟩) ?_ ?_
 rotate_left
 ·intro w'
  go_simp
  with_reducible rfl
 rotate_left
 ·simp only [Act.put, List.setIfInBounds_toArray, List.set_cons_zero, List.set_cons_succ, i64_w, i32_w]
  rfl
 refine pure_ (i := 10) (N := some 44) (v := ?_) (a' := ?_) #[true, true, false, true, true, true, true, true, true, false, true, false, false, false, false, false, false, false, false] rfl rfl (any_of HT_.out (by kernel_rfl)) (fun _ _ _ h => h) (Or.inl ⟨by rfl, ?_⟩) ?_ ?_
 rotate_left
 ·intro w'
  go_simp
  with_reducible rfl
 rotate_left
 ·simp only [Act.put, List.setIfInBounds_toArray, List.set_cons_zero, List.set_cons_succ, i64_w, i32_w]
  rfl
 refine pure_ (i := 11) (N := some 45) (v := ?_) (a' := ?_) #[true, true, false, true, true, true, true, true, true, false, true, true, false, false, false, false, false, false, false] rfl rfl (any_of HT_.out (by kernel_rfl)) (fun _ _ _ h => h) (Or.inl ⟨by rfl, ?_⟩) ?_ ?_
 rotate_left
 ·intro w'
  go_simp
  with_reducible rfl
 rotate_left
 ·simp only [Act.put, List.setIfInBounds_toArray, List.set_cons_zero, List.set_cons_succ, i64_w, i32_w]
  rfl
 refine pure_ (i := 12) (N := some 46) (v := ?_) (a' := ?_) #[true, true, false, true, true, true, true, true, true, false, true, true, true, false, false, false, false, false, false] rfl rfl (any_of HT_.out (by kernel_rfl)) (fun _ _ _ h => h) (Or.inl ⟨by rfl, ?_⟩) ?_ ?_
 rotate_left
 ·intro w'
  go_simp
  with_reducible rfl
 rotate_left
 ·simp only [Act.put, List.setIfInBounds_toArray, List.set_cons_zero, List.set_cons_succ, i64_w, i32_w]
  rfl
 refine pure_ (i := 13) (N := some 47) (v := ?_) (a' := ?_) #[true, true, false, true, true, true, true, true, true, false, true, true, true, true, false, false, false, false, false] rfl rfl (any_of HT_.out (by kernel_rfl)) (fun _ _ _ h => h) (Or.inl ⟨by rfl, ?_⟩) ?_ ?_
 rotate_left
 ·intro w'
  go_simp
  with_reducible rfl
 rotate_left
 ·simp only [Act.put, List.setIfInBounds_toArray, List.set_cons_zero, List.set_cons_succ, i64_w, i32_w]
  rfl
 refine take_ (i := 9) (N := some 43) (v := ?_) (a' := ?_) #[true, true, false, true, true, true, true, true, true, true, true, true, true, true, false, false, false, false, false] rfl rfl (take_ofW HT_.out HW_.out (by kernel_rfl)) (fun _ _ _ h => h) (Or.inl ⟨by rfl, ?_⟩) hHeld ?_ ?_
 rotate_left
 ·rintro w' ⟨s0, s1, s2, s3, s4, s5, s6, s7⟩
  go_simp
  with_reducible rfl
 rotate_left
 ·simp only [Act.put, List.setIfInBounds_toArray, List.set_cons_zero, List.set_cons_succ, i64_w, i32_w]
  rfl
 refine take_ (i := 14) (N := some 48) (v := ?_) (a' := ?_) #[true, true, false, true, true, true, true, true, true, true, true, true, true, true, true, false, false, false, false] rfl rfl (take_ofW HT_.out HW_.out (by kernel_rfl)) (fun _ _ _ h => h) (Or.inl ⟨by rfl, ?_⟩) hHeld ?_ ?_
 rotate_left
 ·rintro w' ⟨s0, s1, s2, s3, s4, s5, s6, s7⟩
  go_simp
  with_reducible rfl
 rotate_left
 ·simp only [Act.put, List.setIfInBounds_toArray, List.set_cons_zero, List.set_cons_succ, i64_w, i32_w]
  rfl
 refine join_ (σ := Value × Value) 3 #[true, true, true, true, true, true, true, true, true, true, true, true, true, true, true, true, false, false, false] (fun s_ => [(36, s_.1), (49, s_.2)]) (fun s_ w' => (w'.cell? (ad166.add ((a2).toNat * 4)) = some (.int .i64 ((rd_T36 l1 a2).f0)) ∧ w'.cell? ⟨(ad166.add ((a2).toNat * 4)).block, (ad166.add ((a2).toNat * 4)).off + 1, none⟩ = some (.int .i64 ((rd_T36 l1 a2).f1)) ∧ w'.cell? ⟨(ad166.add ((a2).toNat * 4)).block, (ad166.add ((a2).toNat * 4)).off + 2, none⟩ = some (.int .i64 ((rd_T36 l1 a2).f2)) ∧ w'.cell? ⟨(ad166.add ((a2).toNat * 4)).block, (ad166.add ((a2).toNat * 4)).off + 3, none⟩ = some (.int .i64 ((rd_T36 l1 a2).f3)) ∧ w'.cell? (ad166.add ((a2).toNat * 4)) = some (.int .i64 ((rd_T36 l1 a2).f0)) ∧ w'.cell? ⟨(ad166.add ((a2).toNat * 4)).block, (ad166.add ((a2).toNat * 4)).off + 1, none⟩ = some (.int .i64 ((rd_T36 l1 a2).f1)) ∧ w'.cell? ⟨(ad166.add ((a2).toNat * 4)).block, (ad166.add ((a2).toNat * 4)).off + 2, none⟩ = some (.int .i64 ((rd_T36 l1 a2).f2)) ∧ w'.cell? ⟨(ad166.add ((a2).toNat * 4)).block, (ad166.add ((a2).toNat * 4)).off + 3, none⟩ = some (.int .i64 ((rd_T36 l1 a2).f3))) ∧ (Kd.R (Kd.int .i64) 3 w' w.heap.size (fun k_ => some k_ ≠ (s_.1 : Value).ownBlock ∧ some k_ ≠ (s_.2 : Value).ownBlock) (.slice Ao25 t149.length co25) t149) ∧ (Kd.R (Kd.int .i64) 3 w' w.heap.size (fun k_ => some k_ ≠ (.slice Ao25 t149.length co25 : Value).ownBlock ∧ some k_ ≠ (s_.2 : Value).ownBlock) s_.1 y163) ∧ (Kd.R (Kd.int .i64) 3 w' w.heap.size (fun k_ => some k_ ≠ (.slice Ao25 t149.length co25 : Value).ownBlock ∧ some k_ ≠ (s_.1 : Value).ownBlock) s_.2 t168) ∧ (Below w.heap.size w w')) ?_ ?_
 rotate_left
 ·intro hCont
  refine two_ (i := 2) (j := 15) (Ni := some 36) (Nj := some 49) #[true, true, true, true, true, true, true, true, true, true, true, true, true, true, true, false, false, false, false] #[true, true, false, true, true, true, true, true, true, true, true, true, true, true, true, true, false, false, false] rfl rfl rfl rfl (two_of HT_.out (by kernel_rfl)) (by decide) (by decide) (fun K hK => ?_) (fun K hK => ?_)
  ·skip
   refine Kd.R_lit_step (Kd.int .i64) _ 3 ?hg (N := 36) ?hd (xs := ([wrap64 (a2 + 1)] : List Int)) (inner := [.int .i64 (wrap64 (a2 + 1))]) (ok := fun _ => True) (okp := fun _ => True) ?hr ?hp (fun _ hk => hk) trivial (Below.refl _ _) (Nat.le_refl _) (by simp) ?_; (case hd => rfl); (case hg => rfl); (case hr => first | (go_simp; done) | (go_simp; rfl)); (case hp => exact (Reps.one (show Kd.M (Kd.int .i64) _ _ _ (wrap64 (a2 + 1)) [.int .i64 (wrap64 (a2 + 1))] from rfl) (Reps.none _ _)))
   intro v164 w27 ho28 hb hg_ hnew_
   clear hg_ hnew_
   (first | rw [← Ny163.out] at ho28 | (simp only [Int.reduceToNat] at ho28; rw [← Ny163.out] at ho28))
   have n0_ := Aside0.mk (Kd.R_elder' (rl_ HO152.out) (Kd.R_base ho28) hb)
   have n1_ := Aside0.mk (Kd.R_lower (Kd.R_new' ho28 (Kd.R_lt (rl_ HO152.out))) (below_size (bw_ HB.out)))
   have n2_ := Aside0.mk (below_step (bw_ HB.out) hb)
   clear HO152
   clear HB
   have HO152 := n0_
   have HO165 := n1_
   have HB := n2_
   clear n0_ n1_ n2_
   clear hb ho28
   refine hK.out _ _ ⟨(up_ HB.out hw166_0), (up_ HB.out hw166_1), (up_ HB.out hw166_2), (up_ HB.out hw166_3), (up_ HB.out hw167_0), (up_ HB.out hw167_1), (up_ HB.out hw167_2), (up_ HB.out hw167_3)⟩ (fun hHeld => ?_)
   clear hK K
   refine norm_ (a' := ?_) ?_ ?_
   rotate_left
   ·show Act.put _ (some 36) _ = _
    simp only [Act.put, List.setIfInBounds_toArray, List.set_cons_zero, List.set_cons_succ, i64_w, i32_w]
    rfl
   refine one_ (i := 15) (N := some 49) #[true, true, true, true, true, true, true, true, true, true, true, true, true, true, true, true, false, false, false] rfl rfl (one_of HT_.out (by kernel_rfl)) (by decide) (fun K hK => ?_)
   refine goes_ Try.func100 (by kernel_rfl) rfl #[.slice (some ad166) l1.length c1, .slice Ao25 t149.length co25, .int .i64 ((rd_T36 l1 a2).f1), .int .i64 ((rd_T36 l1 a2).f0)] (by rfl) rfl rfl gs_ ?_
   with_reducible refine (impl_treeWay.calls k _ _ l1 _ _ t149 ((rd_T36 l1 a2).f1) ((rd_T36 l1 a2).f0) t168 _ ?side1 ?side2 ?side3 ?side4 A22.out).mono ?_
   (case side1 => exact cl_ (Kd.C_below HR1.out HB.out))
   (case side2 => exact HC1.out)
   (case side3 => exact cl_ (Kd.R_reads' HO152.out).2.2)
   (case side4 => exact (Kd.R_reads' HO152.out).2.1)
   rintro e w29 ⟨v169, rfl, ho0, hb⟩
   refine ⟨_, rfl, ?_⟩
   have n0_ := Aside0.mk (Kd.R_elder' (rl_ HO152.out) (Kd.R_base ho0) hb)
   have n1_ := Aside0.mk (Kd.R_elder' (rl_ HO165.out) (Kd.R_base ho0) hb)
   have n2_ := Aside0.mk (Kd.R_lower (Kd.R_new' (Kd.R_new' ho0 (Kd.R_lt (rl_ HO152.out))) (Kd.R_lt (rl_ HO165.out))) (below_size (bw_ HB.out)))
   have n3_ := Aside0.mk (below_step (bw_ HB.out) hb)
   clear HO152
   clear HO165
   clear HB
   have HO152 := n0_
   have HO165 := n1_
   have HO170 := n2_
   have HB := n3_
   clear n0_ n1_ n2_ n3_
   (try clear hb)
   (try clear hb2)
   (try clear hk)
   (try clear hi)
   (try clear ho0)
   refine hK.out _ _ ⟨(up_ HB.out hw166_0), (up_ HB.out hw166_1), (up_ HB.out hw166_2), (up_ HB.out hw166_3), (up_ HB.out hw167_0), (up_ HB.out hw167_1), (up_ HB.out hw167_2), (up_ HB.out hw167_3)⟩ (fun hHeld => ?_)
   clear hK K
   refine norm_ (a' := ?_) ?_ ?_
   rotate_left
   ·show Act.put _ (some 49) _ = _
    simp only [Act.put, List.setIfInBounds_toArray, List.set_cons_zero, List.set_cons_succ, i64_w, i32_w]
    rfl
   exact norm_ (by simp only [putAll, Act.put, List.setIfInBounds_toArray, List.set_cons_zero, List.set_cons_succ]) (hCont (v164, v169) _ ⟨hHeld, (by (with_reducible repeat (first | apply Kd.R_alloc | apply Kd.R_drewN | apply Kd.R_drew)); exact Kd.R_mono HO152.out (fun _ hk => ⟨hk.1.2, hk.2⟩)), (by (with_reducible repeat (first | apply Kd.R_alloc | apply Kd.R_drewN | apply Kd.R_drew)); exact Kd.R_mono HO165.out (fun _ hk => ⟨hk.1.2, hk.2⟩)), (by (with_reducible repeat (first | apply Kd.R_alloc | apply Kd.R_drewN | apply Kd.R_drew)); exact Kd.R_mono HO170.out (fun _ hk => ⟨hk.1.2, hk.2⟩)), (bw_ HB.out)⟩)
  ·skip
   refine goes_ Try.func100 (by kernel_rfl) rfl #[.slice (some ad166) l1.length c1, .slice Ao25 t149.length co25, .int .i64 ((rd_T36 l1 a2).f1), .int .i64 ((rd_T36 l1 a2).f0)] (by rfl) rfl rfl gs_ ?_
   with_reducible refine (impl_treeWay.calls k _ _ l1 _ _ t149 ((rd_T36 l1 a2).f1) ((rd_T36 l1 a2).f0) t168 _ ?side1 ?side2 ?side3 ?side4 A22.out).mono ?_
   (case side1 => exact cl_ (Kd.C_below HR1.out HB.out))
   (case side2 => exact HC1.out)
   (case side3 => exact cl_ (Kd.R_reads' HO152.out).2.2)
   (case side4 => exact (Kd.R_reads' HO152.out).2.1)
   rintro e w27 ⟨v169, rfl, ho0, hb⟩
   refine ⟨_, rfl, ?_⟩
   have n0_ := Aside0.mk (Kd.R_elder' (rl_ HO152.out) (Kd.R_base ho0) hb)
   have n1_ := Aside0.mk (Kd.R_lower (Kd.R_new' ho0 (Kd.R_lt (rl_ HO152.out))) (below_size (bw_ HB.out)))
   have n2_ := Aside0.mk (below_step (bw_ HB.out) hb)
   clear HO152
   clear HB
   have HO152 := n0_
   have HO170 := n1_
   have HB := n2_
   clear n0_ n1_ n2_
   (try clear hb)
   (try clear hb2)
   (try clear hk)
   (try clear hi)
   (try clear ho0)
   refine hK.out _ _ ⟨(up_ HB.out hw166_0), (up_ HB.out hw166_1), (up_ HB.out hw166_2), (up_ HB.out hw166_3), (up_ HB.out hw167_0), (up_ HB.out hw167_1), (up_ HB.out hw167_2), (up_ HB.out hw167_3)⟩ (fun hHeld => ?_)
   clear hK K
   refine norm_ (a' := ?_) ?_ ?_
   rotate_left
   ·show Act.put _ (some 49) _ = _
    simp only [Act.put, List.setIfInBounds_toArray, List.set_cons_zero, List.set_cons_succ, i64_w, i32_w]
    rfl
   refine one_ (i := 2) (N := some 36) #[true, true, true, true, true, true, true, true, true, true, true, true, true, true, true, true, false, false, false] rfl rfl (one_of HT_.out (by kernel_rfl)) (by decide) (fun K hK => ?_)
   refine Kd.R_lit_step (Kd.int .i64) _ 3 ?hg (N := 36) ?hd (xs := ([wrap64 (a2 + 1)] : List Int)) (inner := [.int .i64 (wrap64 (a2 + 1))]) (ok := fun _ => True) (okp := fun _ => True) ?hr ?hp (fun _ hk => hk) trivial (Below.refl _ _) (Nat.le_refl _) (by simp) ?_; (case hd => rfl); (case hg => rfl); (case hr => first | (go_simp; done) | (go_simp; rfl)); (case hp => exact (Reps.one (show Kd.M (Kd.int .i64) _ _ _ (wrap64 (a2 + 1)) [.int .i64 (wrap64 (a2 + 1))] from rfl) (Reps.none _ _)))
   intro v164 w28 ho29 hb hg_ hnew_
   clear hg_ hnew_
   (first | rw [← Ny163.out] at ho29 | (simp only [Int.reduceToNat] at ho29; rw [← Ny163.out] at ho29))
   have n0_ := Aside0.mk (Kd.R_elder' (rl_ HO152.out) (Kd.R_base ho29) hb)
   have n1_ := Aside0.mk (Kd.R_elder' (rl_ HO170.out) (Kd.R_base ho29) hb)
   have n2_ := Aside0.mk (Kd.R_lower (Kd.R_new' (Kd.R_new' ho29 (Kd.R_lt (rl_ HO152.out))) (Kd.R_lt (rl_ HO170.out))) (below_size (bw_ HB.out)))
   have n3_ := Aside0.mk (below_step (bw_ HB.out) hb)
   clear HO152
   clear HO170
   clear HB
   have HO152 := n0_
   have HO170 := n1_
   have HO165 := n2_
   have HB := n3_
   clear n0_ n1_ n2_ n3_
   clear hb ho29
   refine hK.out _ _ ⟨(up_ HB.out hw166_0), (up_ HB.out hw166_1), (up_ HB.out hw166_2), (up_ HB.out hw166_3), (up_ HB.out hw167_0), (up_ HB.out hw167_1), (up_ HB.out hw167_2), (up_ HB.out hw167_3)⟩ (fun hHeld => ?_)
   clear hK K
   refine norm_ (a' := ?_) ?_ ?_
   rotate_left
   ·show Act.put _ (some 36) _ = _
    simp only [Act.put, List.setIfInBounds_toArray, List.set_cons_zero, List.set_cons_succ, i64_w, i32_w]
    rfl
   exact norm_ (by simp only [putAll, Act.put, List.setIfInBounds_toArray, List.set_cons_zero, List.set_cons_succ]) (hCont (v164, v169) _ ⟨hHeld, (by (with_reducible repeat (first | apply Kd.R_alloc | apply Kd.R_drewN | apply Kd.R_drew)); exact Kd.R_mono HO152.out (fun _ hk => ⟨hk.2, hk.1.2⟩)), (by (with_reducible repeat (first | apply Kd.R_alloc | apply Kd.R_drewN | apply Kd.R_drew)); exact Kd.R_mono HO165.out (fun _ hk => ⟨hk.1.2, hk.2⟩)), (by (with_reducible repeat (first | apply Kd.R_alloc | apply Kd.R_drewN | apply Kd.R_drew)); exact Kd.R_mono HO170.out (fun _ hk => ⟨hk.1.2, hk.2⟩)), (bw_ HB.out)⟩)
 rintro ⟨v164, v169⟩ w30 ⟨hS_, h0_, h1_, h2_, h3_⟩
 have n0_ : Aside0 (Kd.R (Kd.int .i64) 3 w30 w.heap.size (fun k_ => some k_ ≠ (v164 : Value).ownBlock ∧ some k_ ≠ (v169 : Value).ownBlock) (.slice Ao25 t149.length co25) t149) := ⟨h0_⟩
 have n1_ : Aside0 (Kd.R (Kd.int .i64) 3 w30 w.heap.size (fun k_ => some k_ ≠ (.slice Ao25 t149.length co25 : Value).ownBlock ∧ some k_ ≠ (v169 : Value).ownBlock) v164 y163) := ⟨h1_⟩
 have n2_ : Aside0 (Kd.R (Kd.int .i64) 3 w30 w.heap.size (fun k_ => some k_ ≠ (.slice Ao25 t149.length co25 : Value).ownBlock ∧ some k_ ≠ (v164 : Value).ownBlock) v169 t168) := ⟨h2_⟩
 have n3_ : Aside0 (Below w.heap.size w w30) := ⟨h3_⟩
 clear HO152
 clear HB
 clear h0_ h1_ h2_ h3_
 have HO152 := n0_
 have HO165 := n1_
 have HO170 := n2_
 have HB := n3_
 clear n0_ n1_ n2_ n3_
 have hHeld : w30.cell? (ad166.add ((a2).toNat * 4)) = some (.int .i64 ((rd_T36 l1 a2).f0)) ∧ w30.cell? ⟨(ad166.add ((a2).toNat * 4)).block, (ad166.add ((a2).toNat * 4)).off + 1, none⟩ = some (.int .i64 ((rd_T36 l1 a2).f1)) ∧ w30.cell? ⟨(ad166.add ((a2).toNat * 4)).block, (ad166.add ((a2).toNat * 4)).off + 2, none⟩ = some (.int .i64 ((rd_T36 l1 a2).f2)) ∧ w30.cell? ⟨(ad166.add ((a2).toNat * 4)).block, (ad166.add ((a2).toNat * 4)).off + 3, none⟩ = some (.int .i64 ((rd_T36 l1 a2).f3)) ∧ w30.cell? (ad166.add ((a2).toNat * 4)) = some (.int .i64 ((rd_T36 l1 a2).f0)) ∧ w30.cell? ⟨(ad166.add ((a2).toNat * 4)).block, (ad166.add ((a2).toNat * 4)).off + 1, none⟩ = some (.int .i64 ((rd_T36 l1 a2).f1)) ∧ w30.cell? ⟨(ad166.add ((a2).toNat * 4)).block, (ad166.add ((a2).toNat * 4)).off + 2, none⟩ = some (.int .i64 ((rd_T36 l1 a2).f2)) ∧ w30.cell? ⟨(ad166.add ((a2).toNat * 4)).block, (ad166.add ((a2).toNat * 4)).off + 3, none⟩ = some (.int .i64 ((rd_T36 l1 a2).f3)) := hS_
 obtain ⟨Ao32, co32, eo32⟩ := Kd.R_slice HO170.out
 (first | subst eo32 | (injection eo32 with f1_ f2_ f3_; have f4_ := f1_.symm; have f5_ := f3_.symm; clear f1_ f2_ f3_; subst f4_; subst f5_))
 refine norm_ (a' := ?_) ?_ ?_
 rotate_left
 ·simp only [putAll, Act.put, List.setIfInBounds_toArray, List.set_cons_zero, List.set_cons_succ]
  rfl
 refine one_ (i := 16) (N := some 50) #[true, true, true, true, true, true, true, true, true, true, true, true, true, true, true, true, true, false, false] rfl rfl (one_of HT_.out (by kernel_rfl)) (by decide) (fun K hK => ?_)
 refine Kd.R_append_rows_step (Kd.int .i64) (w0 := w) w.heap.size (by rfl) (.tmp 36) (.tmp 49) 26 3 (.int .i64 0) 8 rfl Try.underlying26 info3 rfl (by decide) (by omega) v164 y163 t168 _ _ _ (fun k_ => some k_ ≠ (.slice Ao25 t149.length co25 : Value).ownBlock ∧ some k_ ≠ (.slice Ao32 t168.length co32 : Value).ownBlock) (fun _ => False) rfl rfl ?aO ?aR (fun _ _ h => h) (fun _ h => h.elim) ?aF ?aB ?aS ?aL ?_
 (case aR => exact cl_ (Kd.R_reads' HO170.out).2.2)
 (case aB => exact (bw_ HB.out))
 (case aF => exact (fun k_ hk => ⟨Kd.fresh' (Kd.R_lt (rl_ HO152.out)) k_ hk, Kd.fresh' (Kd.R_lt (rl_ HO170.out)) k_ hk⟩))
 (case aO => exact (rl_ HO165.out))
 (case aS => exact (below_size (bw_ HB.out)))
 (case aL => have := LMc23.out; omega)
 intro v172 w31 ho hb hg hat
 rw [← Ny171.out] at ho
 have n0_ := Aside0.mk (Kd.R_after (ok := (fun k_ => some k_ ≠ (.slice Ao32 t168.length co32 : Value).ownBlock)) (by (with_reducible repeat (first | apply Kd.R_alloc | apply Kd.R_drewN | apply Kd.R_drew)); exact Kd.R_mono HO152.out (fun _ hk => ⟨hk.2, hk.1⟩)) hg hat)
 have n1_ := Aside0.mk (Kd.R_after (ok := (fun k_ => some k_ ≠ (.slice Ao25 t149.length co25 : Value).ownBlock)) (rl_ HO170.out) hg hat)
 have n2_ := Aside0.mk (hb)
 have n3_ := Aside0.mk (ho)
 clear HO152
 clear HO170
 clear HB
 clear HO165
 have HO152 := n0_
 have HO170 := n1_
 have HB := n2_
 have HO173 := n3_
 clear n0_ n1_ n2_ n3_
 clear ho hb hg hat
 refine hK.out _ _ ⟨(up_ HB.out hw166_0), (up_ HB.out hw166_1), (up_ HB.out hw166_2), (up_ HB.out hw166_3), (up_ HB.out hw167_0), (up_ HB.out hw167_1), (up_ HB.out hw167_2), (up_ HB.out hw167_3)⟩ (fun hHeld => ?_)
 clear hK K
 refine norm_ (a' := ?_) ?_ ?_
 rotate_left
 ·show Act.put _ (some 50) _ = _
  simp only [Act.put, List.setIfInBounds_toArray, List.set_cons_zero, List.set_cons_succ, i64_w, i32_w]
  rfl
 refine pure_ (i := 17) (N := some 6) (v := ?_) (a' := ?_) #[true, true, true, true, true, true, true, true, true, true, true, true, true, true, true, true, true, true, false] rfl rfl (any_of HT_.out (by kernel_rfl)) (fun _ _ _ h => h) (Or.inl ⟨by rfl, ?_⟩) ?_ ?_
 rotate_left
 ·intro w'
  go_simp
  with_reducible rfl
 rotate_left
 ·simp only [Act.put, List.setIfInBounds_toArray, List.set_cons_zero, List.set_cons_succ, i64_w, i32_w]
  rfl
 refine pure_ (i := 18) (N := some 7) (v := ?_) (a' := ?_) #[true, true, true, true, true, true, true, true, true, true, true, true, true, true, true, true, true, true, true] rfl rfl (any_of HT_.out (by kernel_rfl)) (fun _ _ _ h => h) (Or.inl ⟨by rfl, ?_⟩) ?_ ?_
 rotate_left
 ·intro w'
  go_simp
  with_reducible rfl
 rotate_left
 ·simp only [Act.put, List.setIfInBounds_toArray, List.set_cons_zero, List.set_cons_succ, i64_w, i32_w]
  rfl
 refine done_ (done_of HT_.out (by kernel_rfl)) ?_
 try go_wp2
 go_ret2
 exact ⟨_, by first | rfl | (simp [errW_none, errW_some] <;> rfl) | (simp [*, errW_none, errW_some] <;> rfl), by (with_reducible repeat (first | apply Kd.R_alloc | apply Kd.R_drewN | apply Kd.R_drew)); exact Kd.R_mono HO173.out (fun _ hk => trivial), by repeat (first | (with_reducible first | exact HB.out | apply below_alloc | apply pw_below_drewN | apply below_drew1) | exact HB.out)⟩
end Go.Proofs.Ytbnndmkkmceenaa.P2
