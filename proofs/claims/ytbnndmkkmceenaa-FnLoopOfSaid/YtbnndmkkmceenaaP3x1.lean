-- squeezed
-- dedented
-- Written by a program (wip/tools/mkprint.py) over the kit's print.
import Derived.Test.YtbnndmkkmceenaaP3x0
import Derived.Test.YtbnndmkkmceenaaP0x58
import Derived.Test.YtbnndmkkmceenaaP1x7
namespace Go.Proofs.Ytbnndmkkmceenaa.P3
open Go.RowKit Go.Proofs.Ytbnndmkkmceenaa.Hand Go.Proofs.Ytbnndmkkmceenaa.P0 Go.Proofs.Ytbnndmkkmceenaa.P1 Go.Proofs.YtbnndmkkmceenaaW.PrintWords Go.Proofs.YtbnndmkkmceenaaW.PrintLast
set_option linter.unusedVariables false
set_option linter.unusedSimpArgs false

/-! ### impl_TreeHeights: function 40 -/
mutual
def impl_TreeHeights.l0 : Nat → List (S36) → List Int → List Int → List Bool → Int → Int → Option (List Int × Bool)
 | 0, _, _, _, _, _, _ => none
 | k + 1, x1, x2, x8, x9, x25, x26 => if x26 < x25 then ((impl_pick.f k x1 x2).bind fun t112 => (impl_TreeHeights.l1 k x1 x2 x8 x9 x25 x26 t112 (t112.length : Int) 0)) else (some (x8, true))
def impl_TreeHeights.l1 : Nat → List (S36) → List Int → List Int → List Bool → Int → Int → List (S36) → Int → Int → Option (List Int × Bool)
 | 0, _, _, _, _, _, _, _, _, _ => none
 | k + 1, x1, x2, x8, x9, x25, x26, x30, x31, x32 => if x32 < x31 then (if 0 ≤ x32 then (if x32 < (x30.length : Int) then (if 0 ≤ ((rd_T36 x30 x32).f0) then (if ((rd_T36 x30 x32).f0) < (x9.length : Int) then (if rdOf false x9 ((rd_T36 x30 x32).f0) = true then (if 0 ≤ ((rd_T36 x30 x32).f1) then (if ((rd_T36 x30 x32).f1) < (x9.length : Int) then (impl_TreeHeights.j2 k x1 x2 x8 x9 x25 x26 x30 x31 x32 (!(rdOf false x9 ((rd_T36 x30 x32).f1))) ((rd_T36 x30 x32).f0) ((rd_T36 x30 x32).f1) ((rd_T36 x30 x32).f2) ((rd_T36 x30 x32).f3)) else (none)) else (none)) else (impl_TreeHeights.j2 k x1 x2 x8 x9 x25 x26 x30 x31 x32 false ((rd_T36 x30 x32).f0) ((rd_T36 x30 x32).f1) ((rd_T36 x30 x32).f2) ((rd_T36 x30 x32).f3))) else (none)) else (none)) else (none)) else (none)) else (impl_TreeHeights.l0 k x1 x2 x8 x9 x25 (wrap64 (x26 + 1)))
def impl_TreeHeights.j2 : Nat → List (S36) → List Int → List Int → List Bool → Int → Int → List (S36) → Int → Int → Bool → Int → Int → Int → Int → Option (List Int × Bool)
 | 0, _, _, _, _, _, _, _, _, _, _, _, _, _, _ => none
 | k + 1, x1, x2, x8, x9, x25, x26, x30, x31, x32, x36, x117000, x117001, x117002, x117003 => if x36 = true then (if 0 ≤ x117000 then (if x117000 < (x8.length : Int) then (if 0 ≤ x117001 then (if x117001 < (x8.length : Int) then (if x117001 < (x9.length : Int) then (impl_TreeHeights.l1 k x1 x2 (x8.set (x117001 : Int).toNat (wrap64 ((rd x8 x117000) + x117002))) (x9.set (x117001 : Int).toNat true) x25 x26 x30 x31 (wrap64 (x32 + 1))) else (none)) else (none)) else (none)) else (none)) else (none)) else (if 0 ≤ x117001 then (if x117001 < (x9.length : Int) then (if rdOf false x9 x117001 = true then (if 0 ≤ x117000 then (if x117000 < (x9.length : Int) then (if rdOf false x9 x117000 = true then (impl_TreeHeights.l1 k x1 x2 x8 x9 x25 x26 x30 x31 (wrap64 (x32 + 1))) else (if x117001 < (x8.length : Int) then (if x117000 < (x8.length : Int) then (impl_TreeHeights.l1 k x1 x2 (x8.set (x117000 : Int).toNat (wrap64 ((rd x8 x117001) - x117002))) (x9.set (x117000 : Int).toNat true) x25 x26 x30 x31 (wrap64 (x32 + 1))) else (none)) else (none))) else (none)) else (none)) else (impl_TreeHeights.l1 k x1 x2 x8 x9 x25 x26 x30 x31 (wrap64 (x32 + 1)))) else (none)) else (none))
end
def impl_TreeHeights.f (k : Nat) (a0 : Int) (l1 : List (S36)) (l2 : List Int) : Option (List Int × Bool) := (impl_TreeIs.f k a0 l1 l2).bind fun t101 => (if t101 = true then (if 0 ≤ a0 then (if (a0 : Int).toNat ≤ 35184372088832 then (if (a0 : Int).toNat ≤ 281474976710656 then ((some (List.replicate (a0 : Int).toNat false : List Bool)).bind fun y108 => (if 0 < (y108.length : Int) then (impl_TreeHeights.l0 k l1 l2 (List.replicate (a0 : Int).toNat 0) (y108.set (0 : Int).toNat true) (l2.length : Int) 0) else (none))) else (none)) else (none)) else (none)) else (some ((([] : List Int)), false)))
def impl_TreeHeights.T12 : Bool × List (List Nat × List Nat) := (true, [([], []), ([], []), ([1], [1]), ([], []), ([], []), ([4], [4]), ([3, 5], [3, 5]), ([6], [6]), ([], []), ([8], [8]), ([7, 9], [7, 9]), ([0, 2, 0, 1, 2, 3, 4, 5, 6, 7, 8, 9, 10], [0, 2]), ([11, 10, 0, 1, 2, 3, 4, 5, 6, 7, 8, 9, 10], [10, 11])])
def impl_TreeHeights.B12 : List Nat := [0, 0, 2, 0, 0, 16, 56, 120, 0, 256, 1016, 2047, 4095]
theorem impl_TreeHeights.tab12 : rtab .any (opsOf Try.f40 12) = impl_TreeHeights.T12 := by kernel_rfl
theorem impl_TreeHeights.bits12 : waitsOk impl_TreeHeights.T12.2 impl_TreeHeights.B12 = true := by kernel_rfl
def impl_TreeHeights.T15 : Bool × List (List Nat × List Nat) := (true, [([], []), ([], []), ([1], [1]), ([], []), ([], []), ([4], [4]), ([3, 5], [3, 5]), ([6], [6]), ([], []), ([8], [8]), ([7, 9], [7, 9]), ([0, 2, 0, 1, 2, 3, 4, 5, 6, 7, 8, 9, 10], [0, 2]), ([11, 10, 0, 1, 2, 3, 4, 5, 6, 7, 8, 9, 10], [10, 11])])
def impl_TreeHeights.B15 : List Nat := [0, 0, 2, 0, 0, 16, 56, 120, 0, 256, 1016, 2047, 4095]
theorem impl_TreeHeights.tab15 : rtab .any (opsOf Try.f40 15) = impl_TreeHeights.T15 := by kernel_rfl
theorem impl_TreeHeights.bits15 : waitsOk impl_TreeHeights.T15.2 impl_TreeHeights.B15 = true := by kernel_rfl
set_option maxHeartbeats 8000000 in
set_option maxRecDepth 100000 in
theorem impl_TreeHeights.calls (k : Nat) (a0 : Int) (A1 : Option Addr) (c1 : Nat) (l1 : List (S36)) (A2 : Option Addr) (c2 : Nat) (l2 : List Int) (r1 : List Int) (r2 : Bool) (w : World) (hr1 : Kd.C k36 w A1 l1.length l1) (hc1 : l1.length ≤ c1) (hr2 : Kd.C (Kd.int .i64) w A2 l2.length l2) (hc2 : l2.length ≤ c2) (h : impl_TreeHeights.f k a0 l1 l2 = some (r1, r2)) :
  Calls Try.prog 40 #[.int .i64 a0, .slice A1 l1.length c1, .slice A2 l2.length c2] w fun e w' => ∃ v0_ : Value, e = .returned (.tuple #[v0_, .bool r2]) ∧ Kd.R (Kd.int .i64) 3 w' w.heap.size (fun _ => True) v0_ r1 ∧ Below w.heap.size w w' := by
 have hu36 := Try.underlying36
 have HR1 := Aside0.mk hr1
 have HC1 := Aside0.mk hc1
 clear hr1 hc1
 have HR2 := Aside0.mk hr2
 have HC2 := Aside0.mk hc2
 clear hr2 hc2
 have HB := Aside0.mk (Below.refl w.heap.size w)
 have H : ((impl_TreeIs.f k a0 l1 l2).bind fun t101 => (if t101 = true then (if 0 ≤ a0 then (if (a0 : Int).toNat ≤ 35184372088832 then (if (a0 : Int).toNat ≤ 281474976710656 then ((some (List.replicate (a0 : Int).toNat false : List Bool)).bind fun y108 => (if 0 < (y108.length : Int) then (impl_TreeHeights.l0 k l1 l2 (List.replicate (a0 : Int).toNat 0) (y108.set (0 : Int).toNat true) (l2.length : Int) 0) else (none))) else (none)) else (none)) else (none)) else (some ((([] : List Int)), false)))) = some (r1, r2) := h
 clear h
 replace H := Option.bind_eq_some_iff.mp H
 obtain ⟨t101, A40, H⟩ := H
 replace H : (if t101 = true then (if 0 ≤ a0 then (if (a0 : Int).toNat ≤ 35184372088832 then (if (a0 : Int).toNat ≤ 281474976710656 then ((some (List.replicate (a0 : Int).toNat false : List Bool)).bind fun y108 => (if 0 < (y108.length : Int) then (impl_TreeHeights.l0 k l1 l2 (List.replicate (a0 : Int).toNat 0) (y108.set (0 : Int).toNat true) (l2.length : Int) 0) else (none))) else (none)) else (none)) else (none)) else (some ((([] : List Int)), false))) = some (r1, r2) := H
 have A4 := Aside0.mk A40
 clear A40
 by_cases c5 : t101 = true
 rotate_left
 ·replace c5 := Bool.eq_false_iff.mpr c5
  subst c5
  have H1 : (some ((([] : List Int)), false)) = some (r1, r2) := by rw [if_neg (show ¬ (false = true) by decide)] at H; exact H
  clear H
  have H := H1
  clear H1
  obtain ⟨y102, hy102⟩ : ∃ y_ : List Int, y_ = (([] : List Int)) := ⟨_, rfl⟩
  replace H : (some (y102, false)) = some (r1, r2) := by first | (rw [hy102]; with_reducible exact H) | (have H2_ := (Option.bind_some _ _).symm.trans H; rw [hy102]; with_reducible exact H2_) | (have H2_ := (Option.bind_some _ _).symm.trans H; with_reducible exact H2_) | with_reducible exact H | (rw [hy102]; exact H) | exact H
  have Ny102 := Aside0.mk hy102
  clear hy102
  simp only [Option.some.injEq, Prod.mk.injEq] at H
  obtain ⟨rfl, rfl⟩ := H
  go_enter Try.func40, Try.ntmps40
  go_wp2_with (first | ((with_reducible refine gate_callee (f := 76) rfl ?_); refine goesL_ (some 15) rfl rfl Try.func76 (by kernel_rfl) rfl #[.int .i64 a0, .slice A1 l1.length c1, .slice A2 l2.length c2] rfl gs_ ?_; (with_reducible refine (impl_TreeIs.calls k a0 _ _ l1 _ _ l2 false _ ?side1 ?side2 ?side3 ?side4 A4.out).mono ?_); (case side1 => exact cl_ HR1.out); (case side2 => exact HC1.out); (case side3 => exact cl_ HR2.out); (case side4 => exact HC2.out); rintro e w73 ⟨rfl, hb⟩; refine ⟨_, rfl, ?_⟩; have n0_ := Aside0.mk (below_step (bw_ HB.out) hb); clear HB; have HB := n0_; clear n0_; (try clear hb); (try clear hb2); (try clear hk); (try clear hi)) | ((with_reducible refine gate_dst (N := 17) rfl ?_); refine Kd.R_lit (Kd.int .i64) _ 3 ?hg (N := 17) ?hd (xs := ([] : List Int)) (inner := []) (ok := fun _ => True) (okp := fun _ => True) ?hr ?hp (fun _ hk => hk) trivial (Below.refl _ _) (Nat.le_refl _) (by simp) ?_; (case hd => rfl); (case hg => rfl); (case hr => first | (go_simp; done) | (go_simp; rfl)); (case hp => exact (Reps.none _ _)); intro v103 w74 ho75 hb hg_ hnew_; clear hg_ hnew_; (first | rw [← Ny102.out] at ho75 | (simp only [Int.reduceToNat] at ho75; rw [← Ny102.out] at ho75)); have n0_ := Aside0.mk (Kd.R_lower ho75 (below_size (bw_ HB.out))); have n1_ := Aside0.mk (below_step (bw_ HB.out) hb); clear HB; have HO104 := n0_; have HB := n1_; clear n0_ n1_; clear hb ho75))
  go_ret2
  exact ⟨_, by first | rfl | (simp [errW_none, errW_some] <;> rfl) | (simp [*, errW_none, errW_some] <;> rfl), by (with_reducible repeat (first | apply Kd.R_alloc | apply Kd.R_drewN | apply Kd.R_drew)); exact HO104.out, by repeat (first | (with_reducible first | exact HB.out | apply below_alloc | apply pw_below_drewN | apply below_drew1) | exact HB.out)⟩

 subst c5
 have H1 : (if 0 ≤ a0 then (if (a0 : Int).toNat ≤ 35184372088832 then (if (a0 : Int).toNat ≤ 281474976710656 then ((some (List.replicate (a0 : Int).toNat false : List Bool)).bind fun y108 => (if 0 < (y108.length : Int) then (impl_TreeHeights.l0 k l1 l2 (List.replicate (a0 : Int).toNat 0) (y108.set (0 : Int).toNat true) (l2.length : Int) 0) else (none))) else (none)) else (none)) else (none)) = some (r1, r2) := by rw [if_pos rfl] at H; exact H
 clear H
 have H := H1
 clear H1
 by_cases c6 : 0 ≤ a0
 rotate_left
 ·rw [if_neg c6] at H
  exact absurd H (by simp)
 rw [if_pos c6] at H
 have c6b0 := eq_true c6
 have c6b1 : decide (0 ≤ a0) = true := decide_eq_true c6
 clear c6
 by_cases c7 : (a0 : Int).toNat ≤ 35184372088832
 rotate_left
 ·rw [if_neg c7] at H
  exact absurd H (by simp)
 rw [if_pos c7] at H
 have c7b0 := eq_true c7
 have c7b1 : decide ((a0 : Int).toNat ≤ 35184372088832) = true := decide_eq_true c7
 clear c7
 obtain ⟨y105, hy105⟩ : ∃ y_ : List Int, y_ = (List.replicate (a0 : Int).toNat 0) := ⟨_, rfl⟩
 replace H : (if (a0 : Int).toNat ≤ 281474976710656 then ((some (List.replicate (a0 : Int).toNat false : List Bool)).bind fun y108 => (if 0 < (y108.length : Int) then (impl_TreeHeights.l0 k l1 l2 y105 (y108.set (0 : Int).toNat true) (l2.length : Int) 0) else (none))) else (none)) = some (r1, r2) := by first | (rw [hy105]; with_reducible exact H) | (have H2_ := (Option.bind_some _ _).symm.trans H; rw [hy105]; with_reducible exact H2_) | (have H2_ := (Option.bind_some _ _).symm.trans H; with_reducible exact H2_) | with_reducible exact H | (rw [hy105]; exact H) | exact H
 have Ny105 := Aside0.mk hy105
 clear hy105
 by_cases c8 : (a0 : Int).toNat ≤ 281474976710656
 rotate_left
 ·rw [if_neg c8] at H
  exact absurd H (by simp)
 rw [if_pos c8] at H
 have c8b0 := eq_true c8
 have c8b1 : decide ((a0 : Int).toNat ≤ 281474976710656) = true := decide_eq_true c8
 clear c8
 obtain ⟨y108, hy108⟩ : ∃ y_ : List Bool, y_ = (List.replicate (a0 : Int).toNat false) := ⟨_, rfl⟩
 replace H : (if 0 < (y108.length : Int) then (impl_TreeHeights.l0 k l1 l2 y105 (y108.set (0 : Int).toNat true) (l2.length : Int) 0) else (none)) = some (r1, r2) := by first | (rw [hy108]; with_reducible exact H) | (have H2_ := (Option.bind_some _ _).symm.trans H; rw [hy108]; with_reducible exact H2_) | (have H2_ := (Option.bind_some _ _).symm.trans H; with_reducible exact H2_) | with_reducible exact H | (rw [hy108]; exact H) | exact H
 have Ny108 := Aside0.mk hy108
 clear hy108
 by_cases c9 : 0 < (y108.length : Int)
 rotate_left
 ·rw [if_neg c9] at H
  exact absurd H (by simp)
 rw [if_pos c9] at H
 have c9b0 : decide (0 < (y108.length : Int)) = true := decide_eq_true c9
 have c9b1 : decide (0 < y108.length) = true := decide_eq_true (by omega)
 clear c9
 obtain ⟨y111, hy111⟩ : ∃ y_ : List Bool, y_ = (y108.set (0 : Int).toNat true) := ⟨_, rfl⟩
 replace H : (impl_TreeHeights.l0 k l1 l2 y105 y111 (l2.length : Int) 0) = some (r1, r2) := by first | (rw [hy111]; with_reducible exact H) | (have H2_ := (Option.bind_some _ _).symm.trans H; rw [hy111]; with_reducible exact H2_) | (have H2_ := (Option.bind_some _ _).symm.trans H; with_reducible exact H2_) | with_reducible exact H | (rw [hy111]; exact H) | exact H
 have Ny111 := Aside0.mk hy111
 clear hy111
 have H' := Aside0.mk H
 clear H
 go_enter Try.func40, Try.ntmps40
 go_wp2_with (first | ((with_reducible refine gate_callee (f := 76) rfl ?_); refine goesL_ (some 15) rfl rfl Try.func76 (by kernel_rfl) rfl #[.int .i64 a0, .slice A1 l1.length c1, .slice A2 l2.length c2] rfl gs_ ?_; (with_reducible refine (impl_TreeIs.calls k a0 _ _ l1 _ _ l2 true _ ?side1 ?side2 ?side3 ?side4 A4.out).mono ?_); (case side1 => exact cl_ HR1.out); (case side2 => exact HC1.out); (case side3 => exact cl_ HR2.out); (case side4 => exact HC2.out); rintro e w11 ⟨rfl, hb⟩; refine ⟨_, rfl, ?_⟩; have n0_ := Aside0.mk (below_step (bw_ HB.out) hb); clear HB; have HB := n0_; clear n0_; (try clear hb); (try clear hb2); (try clear hk); (try clear hi)) | ((with_reducible refine gate_dst (N := 19) rfl ?_); refine Kd.R_make (Kd.int .i64) _ 3 rfl (N := 19) rfl 26 _ _ rfl a0 rfl rfl Try.underlying26 (.int .i64 0) 8 info3 rfl (by decide) (by omega) 0 (ok := fun _ => True) (okp := fun _ => True) rfl (fun _ hk => hk) trivial (od_) (Nat.le_trans (Nat.mul_le_mul_right _ (od_ : a0.toNat ≤ 35184372088832)) (by omega)) (Below.refl _ _) (Nat.le_refl _) ?_; intro v106 w12 ho13 hb hg_ hnew_; clear hg_ hnew_; (first | rw [← Ny105.out] at ho13 | (simp only [Int.reduceToNat] at ho13; rw [← Ny105.out] at ho13)); have n0_ := Aside0.mk (Kd.R_lower ho13 (below_size (bw_ HB.out))); have n1_ := Aside0.mk (below_step (bw_ HB.out) hb); clear HB; have HO107 := n0_; have HB := n1_; clear n0_ n1_; clear hb ho13) | ((with_reducible refine gate_dst (N := 21) rfl ?_); refine Kd.R_make Kd.bool _ 4 rfl (N := 21) rfl 69 _ _ rfl a0 rfl rfl Try.underlying69 (.bool false) 1 info4 rfl (by decide) (by omega) false (ok := fun _ => True) (okp := fun _ => True) rfl (fun _ hk => hk) trivial (od_) (Nat.le_trans (Nat.mul_le_mul_right _ (od_ : a0.toNat ≤ 281474976710656)) (by omega)) (Below.refl _ _) (Nat.le_refl _) ?_; intro v109 w14 ho15 hb hg_ hnew_; clear hg_ hnew_; (first | rw [← Ny108.out] at ho15 | (simp only [Int.reduceToNat] at ho15; rw [← Ny108.out] at ho15)); have n0_ := Aside0.mk (Kd.R_below (rl_ HO107.out) hb); have n1_ := Aside0.mk (Kd.R_lower ho15 (below_size (bw_ HB.out))); have n2_ := Aside0.mk (below_step (bw_ HB.out) hb); clear HO107; clear HB; have HO107 := n0_; have HO110 := n1_; have HB := n2_; clear n0_ n1_ n2_; clear hb ho15; have p10 : 0 ≤ (0 : Int) := (by omega); have q10 : (0 : Int) < ((y108.length : Int) : Int) := od_; have qi10 : (0 < y108.length) = True := eq_true (by omega); obtain ⟨go10, co10, eo10, gb10, gl10, cl10, HG10⟩ := Kd.R_form HO110.out (by omega); (first | cases eo10 | (injection eo10 with ea_ en_ ec_; (first | subst ea_ | (injection ea_ with ea_; subst ea_)); subst ec_; clear en_)); have GB10 := Aside0.mk gb10; have GG10 := Aside0.mk HG10; clear gb10 gl10 HG10; obtain ⟨hx10_0, hf10_0⟩ := Kd.R_celln false HO110.out (0 : Int) p10 q10; (try rw [show ((0 : Int)).toNat = 0 from rfl] at hx10_0); (try simp only [Nat.reduceMul, Nat.zero_mul, Nat.zero_add, Nat.reduceAdd] at hx10_0); (try rw [show ((0 : Int)).toNat = 0 from rfl] at hf10_0); (try simp only [Nat.reduceMul, Nat.zero_mul, Nat.zero_add, Nat.reduceAdd] at hf10_0); replace p10 := eq_true p10; replace q10 := eq_true q10; obtain ⟨hy16_, hz16_⟩ := Kd.R_celln false HO110.out (0 : Int) (by omega) (od_); (try simp only [Int.reduceToNat, Int.toNat_zero, Int.toNat_ofNat, Nat.reduceMul, Nat.zero_mul, Nat.zero_add] at hy16_ hz16_); (try rw [show ((0 : Int)).toNat = 0 from rfl] at hy16_); (try rw [show ((0 : Int)).toNat = 0 from rfl] at hz16_); have HP16 := Kd.R_putg HO110.out (0 : Int) true) | ((with_reducible refine gate_store (t := 4) (p := 23) rfl ?_); refine store_event (t := 4) (p := 23) (v := ?vo_w17) (w1 := (w14.setCell ⟨go10, (0 : Int).toNat, none⟩ (.bool true))) ?hg ?ho ?hn ?hr ?_; (case ho => rfl); (case hg => rfl); (case hn => rfl); (case hr => first | (go_simp; done) | (go_simp; rfl)); intro w17 hw; have hg : w14.grownBy w17 (some go10) := (by rw [hw]; exact HP16.2); have hp_ : Kd.R Kd.bool 4 w17 w.heap.size (fun _ => True) (.slice (some ⟨go10, 0, none⟩) y108.length co10) y111 := (by rw [hw, Ny111.out]; exact HP16.1); clear HP16; have n0_ := Aside0.mk (Kd.R_over' (v := (.slice (some ⟨go10, 0, none⟩) y108.length co10)) (rl_ HO107.out) (Kd.R_typed HO110.out) (by decide) hg); have n1_ := Aside0.mk (hp_); have n2_ := Aside0.mk ((by rw [hw]; exact below_set (HB.out) GB10.out : Below w.heap.size w w17)); clear HO107; clear HO110; clear HB; have HO107 := n0_; have HO110 := n1_; have HB := n2_; clear n0_ n1_ n2_; clear hg hw hp_))
 go_loopg [26] k (fun kq v26 w' => ∃ (x8_1 : List Int) (x9_1 : List Bool) (x26_1 : Int), v26 = .int .i64 x26_1 ∧ Aside0 (impl_TreeHeights.l0 kq l1 l2 x8_1 x9_1 (l2.length : Int) x26_1 = some (r1, r2)) ∧ Aside0 (kq ≤ k) ∧ Aside0 (Kd.R (Kd.int .i64) 3 w' w.heap.size (fun _ => True) v106 x8_1) ∧ Aside0 (Kd.R Kd.bool 4 w' w.heap.size (fun _ => True) (.slice (some ⟨go10, 0, none⟩) y108.length co10) x9_1) ∧ Aside0 (Below w.heap.size w w'))
 case atStart => exact ⟨(y105), (y111), (0), (by first | rfl | (simp; done) | (simp [*]; done)), H', ⟨Nat.le_refl _⟩, ⟨by (with_reducible repeat (first | apply Kd.R_alloc | apply Kd.R_drewN | apply Kd.R_drew)); exact HO107.out⟩, ⟨by (with_reducible repeat (first | apply Kd.R_alloc | apply Kd.R_drewN | apply Kd.R_drew)); exact HO110.out⟩, ⟨by repeat (first | (with_reducible first | exact HB.out | apply below_alloc | apply pw_below_drewN | apply below_drew1) | exact HB.out)⟩⟩
 case round =>
  clear H'
  try clear c1; try clear p1; try clear q1; try clear hx1; try clear qi1; try clear c2; try clear p2; try clear c4; try clear c5; try clear c6; try clear c6b0; try clear c6b1; try clear c7; try clear c7b0; try clear c7b1; try clear c8; try clear c8b0; try clear c8b1; try clear c9; try clear c9b0; try clear c9b1; try clear p10; try clear q10; try clear hx10; try clear qi10; try clear hf10; try clear hx10_0; try clear p10; try clear q10
  obtain ⟨x8_1, x9_1, x26_1, rfl, HA, HK1, HO_8, HO_9, HB⟩ := hrel
  have hl9_1 := (Kd.R_reads' HO_9.out).1
  rw [hl9_1] at HO_9
  (try simp only [hl9_1])
  (try simp only [hl9_1] at HO_8)
  cases gk with
  | zero => exact absurd HA.out (by simp [impl_TreeHeights.l0])
  | succ k1 =>
   have H := HA.out
   clear HA
   simp only [impl_TreeHeights.l0] at H
   by_cases c18 : x26_1 < (l2.length : Int)
   rotate_left
   ·rw [if_neg c18] at H
    have c18b0 : decide (x26_1 < (l2.length : Int)) = false := decide_eq_false c18
    clear c18
    simp only [Option.some.injEq, Prod.mk.injEq] at H
    obtain ⟨rfl, rfl⟩ := H
    go_wp2
    go_ret2
    exact ⟨_, by first | rfl | (simp [errW_none, errW_some] <;> rfl) | (simp [*, errW_none, errW_some] <;> rfl), by (with_reducible repeat (first | apply Kd.R_alloc | apply Kd.R_drewN | apply Kd.R_drew)); exact HO_8.out, by repeat (first | (with_reducible first | exact HB.out | apply below_alloc | apply pw_below_drewN | apply below_drew1) | exact HB.out)⟩
   rw [if_pos c18] at H
   have c18b0 : decide (x26_1 < (l2.length : Int)) = true := decide_eq_true c18
   clear c18
   replace H := Option.bind_eq_some_iff.mp H
   obtain ⟨t112, A190, H⟩ := H
   replace H : (impl_TreeHeights.l1 k1 l1 l2 x8_1 x9_1 (l2.length : Int) x26_1 t112 (t112.length : Int) 0) = some (r1, r2) := H
   have A19 := Aside0.mk A190
   clear A190
   have H' := Aside0.mk H
   clear H
   go_wp2_with (first | ((with_reducible refine gate_callee (f := 105) rfl ?_); refine goesL_ (some 30) rfl rfl Try.func105 (by kernel_rfl) rfl #[.slice A1 l1.length c1, .slice A2 l2.length c2] rfl gs_ ?_; (with_reducible refine (impl_pick.calls k1 _ _ l1 _ _ l2 t112 _ ?side1 ?side2 ?side3 ?side4 A19.out).mono ?_); (case side1 => exact cl_ (Kd.C_below HR1.out HB.out)); (case side2 => exact HC1.out); (case side3 => exact cl_ (Kd.C_below HR2.out HB.out)); (case side4 => exact HC2.out); rintro e w20 ⟨v113, rfl, ho0, hb⟩; refine ⟨_, rfl, ?_⟩; have n0_ := Aside0.mk (Kd.R_below (rl_ HO_8.out) hb); have n1_ := Aside0.mk (Kd.R_below (rl_ HO_9.out) hb); have n2_ := Aside0.mk (Kd.R_lower ho0 (below_size (bw_ HB.out))); have n3_ := Aside0.mk (below_step (bw_ HB.out) hb); clear HO_8; clear HO_9; clear HB; have HO_8 := n0_; have HO_9 := n1_; have HO114 := n2_; have HB := n3_; clear n0_ n1_ n2_ n3_; (try clear hb); (try clear hb2); (try clear hk); (try clear hi); (try clear ho0); obtain ⟨Ao21, co21, eo21⟩ := Kd.R_slice HO114.out; subst eo21))
   go_loopg [32] k1 (fun kq v32 w' => ∃ (x8_2 : List Int) (x9_2 : List Bool) (x32_2 : Int), v32 = .int .i64 x32_2 ∧ Aside0 (impl_TreeHeights.l1 kq l1 l2 x8_2 x9_2 (l2.length : Int) x26_1 t112 (t112.length : Int) x32_2 = some (r1, r2)) ∧ Aside0 (kq ≤ k1) ∧ Aside0 (Kd.R (Kd.int .i64) 3 w' w.heap.size (fun _ => True) v106 x8_2) ∧ Aside0 (Kd.R Kd.bool 4 w' w.heap.size (fun _ => True) (.slice (some ⟨go10, 0, none⟩) x9_1.length co10) x9_2) ∧ Aside0 (Kd.R k36 36 w' w.heap.size (fun _ => True) (.slice Ao21 t112.length co21) t112) ∧ Aside0 (Below w.heap.size w w'))
   case atStart => exact ⟨(x8_1), (x9_1), (0), (by first | rfl | (simp; done) | (simp [*]; done)), H', ⟨Nat.le_refl _⟩, ⟨by (try simp only [hl9_1]); (with_reducible repeat (first | apply Kd.R_alloc | apply Kd.R_drewN | apply Kd.R_drew)); exact HO_8.out⟩, ⟨by (try simp only [hl9_1]); (with_reducible repeat (first | apply Kd.R_alloc | apply Kd.R_drewN | apply Kd.R_drew)); exact HO_9.out⟩, ⟨by (try simp only [hl9_1]); (with_reducible repeat (first | apply Kd.R_alloc | apply Kd.R_drewN | apply Kd.R_drew)); exact HO114.out⟩, ⟨by repeat (first | (with_reducible first | exact HB.out | apply below_alloc | apply pw_below_drewN | apply below_drew1) | exact HB.out)⟩⟩
   case round =>
    clear H'
    try clear c1; try clear p1; try clear q1; try clear hx1; try clear qi1; try clear c2; try clear p2; try clear c4; try clear c5; try clear c6; try clear c6b0; try clear c6b1; try clear c7; try clear c7b0; try clear c7b1; try clear c8; try clear c8b0; try clear c8b1; try clear c9; try clear c9b0; try clear c9b1; try clear c10; try clear p10; try clear q10; try clear hx10; try clear qi10; try clear hf10; try clear c18; try clear c18b0; try clear hx10_0; try clear p1; try clear p10; try clear p2; try clear q1; try clear q10
    obtain ⟨x8_2, x9_2, x32_2, rfl, HA, HK2, HO_8, HO_9, HO_30, HB⟩ := hrel
    have hl9_2 := (Kd.R_reads' HO_9.out).1
    rw [hl9_2] at HO_9
    (try simp only [hl9_2])
    (try simp only [hl9_2] at HO_8)
    (try simp only [hl9_2] at HO_30)
    cases gk with
    | zero => exact absurd HA.out (by simp [impl_TreeHeights.l1])
    | succ k2 =>
     have H := HA.out
     clear HA
     simp only [impl_TreeHeights.l1] at H
     by_cases c22 : x32_2 < (t112.length : Int)
     rotate_left
     ·rw [if_neg c22] at H
      have c22b0 : decide (x32_2 < (t112.length : Int)) = false := decide_eq_false c22
      clear c22
      have H' := Aside0.mk H
      clear H
      go_wp2
      (try simp only [← hl9_1, ← hl9_2])
      go_roundg k2
      case measure => have := HK1.out; have := HK2.out; omega
      case rel => exact ⟨(x8_2), (x9_2), (wrap64 (x26_1 + 1)), (by first | rfl | (simp; done) | (simp [*]; done)), H', ⟨by have := HK1.out; have := HK2.out; omega⟩, ⟨by (try simp only [hl9_1]); (try simp only [hl9_2]); (with_reducible repeat (first | apply Kd.R_alloc | apply Kd.R_drewN | apply Kd.R_drew)); exact HO_8.out⟩, ⟨by (try simp only [hl9_1]); (try simp only [hl9_2]); (with_reducible repeat (first | apply Kd.R_alloc | apply Kd.R_drewN | apply Kd.R_drew)); exact HO_9.out⟩, ⟨by repeat (first | (with_reducible first | exact HB.out | apply below_alloc | apply pw_below_drewN | apply below_drew1) | exact HB.out)⟩⟩
     rw [if_pos c22] at H
     have c22b0 : decide (x32_2 < (t112.length : Int)) = true := decide_eq_true c22
     clear c22
     by_cases c23 : 0 ≤ x32_2
     rotate_left
     ·rw [if_neg c23] at H
      exact absurd H (by simp)
     rw [if_pos c23] at H
     have c23b0 : decide (0 ≤ x32_2) = true := decide_eq_true c23
     clear c23
     by_cases c24 : x32_2 < (t112.length : Int)
     rotate_left
     ·rw [if_neg c24] at H
      exact absurd H (by simp)
     rw [if_pos c24] at H
     have c24b0 : decide (x32_2 < (t112.length : Int)) = true := decide_eq_true c24
     clear c24
     have HC25 := Aside0.mk H
     clear H
     have p115 : 0 ≤ (x32_2 : Int) := od_
     have q115 : x32_2 < (t112.length : Int) := od_
     obtain ⟨ad115, e115, hx115_0, hx115_1, hx115_2, hx115_3⟩ := at_T36 (Kd.R_reads' HO_30.out).2.2 x32_2 p115 q115
     cases e115
     replace p115 := eq_true p115
     replace q115 := eq_true q115
     go_upto_region 11 with (first | ((with_reducible refine gate_dst (N := 11) rfl ?_); refine box_event ?hg (N := 11) ?hd (cs := #[.int .i64 0, .int .i64 0, .int .i64 0, .int .i64 0]) (t := 36) ?hr ?_; (case hd => rfl); (case hg => rfl); (case hr => first | (go_simp; done) | (go_simp; rfl)); intro gb116 hg w26 hbox hb; have n0_ := Aside0.mk (Kd.R_below (rl_ HO_8.out) hb); have n1_ := Aside0.mk (Kd.R_below (rl_ HO_9.out) hb); have n2_ := Aside0.mk (Kd.R_below (Kd.R_elderB (rl_ HO_30.out) gb116 (Nat.le_of_eq hg.symm)) hb); have n3_ := Aside0.mk (below_step (bw_ HB.out) hb); have n4_ := Aside0.mk (hbox); have n5_ := Aside0.mk ((by rw [hg]; exact (below_size (bw_ HB.out)) : w.heap.size ≤ gb116)); have n6_ := Aside0.mk ((by rw [hg]; exact (below_size (bw_ HB.out)) : w.heap.size ≤ gb116)); clear HO_8; clear HO_9; clear HO_30; clear HB; have HO_8 := n0_; have HO_9 := n1_; have HO_30 := n2_; have HB := n3_; have BK116 := n4_; have GW116 := n5_; have GE116 := n6_; clear n0_ n1_ n2_ n3_ n4_ n5_ n6_; clear hb hbox hg; have hcz27_0 : w26.cell? ⟨gb116, 0, none⟩ = some (.int .i64 0) := (blk_cell BK116.out 0).trans rfl; have hcz27_1 : w26.cell? ⟨gb116, 1, none⟩ = some (.int .i64 0) := (blk_cell BK116.out 1).trans rfl; have hcz27_2 : w26.cell? ⟨gb116, 2, none⟩ = some (.int .i64 0) := (blk_cell BK116.out 2).trans rfl; have hcz27_3 : w26.cell? ⟨gb116, 3, none⟩ = some (.int .i64 0) := (blk_cell BK116.out 3).trans rfl; have hfz27_0 := blk_frozen BK116.out 0; have hfz27_1 := blk_frozen BK116.out 1; have hfz27_2 := blk_frozen BK116.out 2; have hfz27_3 := blk_frozen BK116.out 3))
     (try simp only [Act.put, List.setIfInBounds_toArray, List.set_cons_zero, List.set_cons_succ])
     go_cut [36] (fun v36 wc => ∃ (kq : Nat) (x36_24 : Bool), v36 = .bool x36_24 ∧ Aside0 (impl_TreeHeights.j2 kq l1 l2 x8_2 x9_2 (l2.length : Int) x26_1 t112 (t112.length : Int) x32_2 x36_24 ((rd_T36 t112 x32_2).f0) ((rd_T36 t112 x32_2).f1) ((rd_T36 t112 x32_2).f2) ((rd_T36 t112 x32_2).f3) = some (r1, r2)) ∧ Aside0 (kq ≤ k2) ∧ Aside0 (Kd.R (Kd.int .i64) 3 wc w.heap.size (fun _ => True) v106 x8_2) ∧ Aside0 (Kd.R Kd.bool 4 wc w.heap.size (fun _ => True) (.slice (some ⟨go10, 0, none⟩) x9_2.length co10) x9_2) ∧ Aside0 (Kd.R k36 36 wc w.heap.size (fun k_ => k_ ≠ gb116) (.slice (some ad115) t112.length co21) t112) ∧ Aside0 (wc.heap[gb116]? = some (.cells #[.int .i64 ((rd_T36 t112 x32_2).f0), .int .i64 ((rd_T36 t112 x32_2).f1), .int .i64 ((rd_T36 t112 x32_2).f2), .int .i64 ((rd_T36 t112 x32_2).f3)] 36 (0, 0))) ∧ Aside0 (Below w.heap.size w wc))
     case first =>
      have H := HC25.out
      clear HC25
      by_cases c28 : 0 ≤ ((rd_T36 t112 x32_2).f0)
      rotate_left
      ·rw [if_neg c28] at H
       exact absurd H (by simp)
      rw [if_pos c28] at H
      have c28b0 : decide (0 ≤ ((rd_T36 t112 x32_2).f0)) = true := decide_eq_true c28
      clear c28
      (first | rw [c28b0] | (simp only [i64_w, i32_w]; rw [c28b0]) | skip)
      by_cases c29 : ((rd_T36 t112 x32_2).f0) < (x9_2.length : Int)
      rotate_left
      ·rw [if_neg c29] at H
       exact absurd H (by simp)
      rw [if_pos c29] at H
      have c29b0 : decide (((rd_T36 t112 x32_2).f0) < (x9_2.length : Int)) = true := decide_eq_true c29
      clear c29
      obtain ⟨bq30, hbq30⟩ : ∃ b_ : Bool, b_ = (rdOf false x9_2 ((rd_T36 t112 x32_2).f0)) := ⟨_, rfl⟩
      replace H : (if bq30 = true then (if 0 ≤ ((rd_T36 t112 x32_2).f1) then (if ((rd_T36 t112 x32_2).f1) < (x9_2.length : Int) then (impl_TreeHeights.j2 k2 l1 l2 x8_2 x9_2 (l2.length : Int) x26_1 t112 (t112.length : Int) x32_2 (!(rdOf false x9_2 ((rd_T36 t112 x32_2).f1))) ((rd_T36 t112 x32_2).f0) ((rd_T36 t112 x32_2).f1) ((rd_T36 t112 x32_2).f2) ((rd_T36 t112 x32_2).f3)) else (none)) else (none)) else (impl_TreeHeights.j2 k2 l1 l2 x8_2 x9_2 (l2.length : Int) x26_1 t112 (t112.length : Int) x32_2 false ((rd_T36 t112 x32_2).f0) ((rd_T36 t112 x32_2).f1) ((rd_T36 t112 x32_2).f2) ((rd_T36 t112 x32_2).f3))) = some (r1, r2) := by rw [← hbq30] at H; exact H
      have Nbq30 := Aside0.mk hbq30
      clear hbq30
      by_cases c31 : bq30 = true
      rotate_left
      ·replace c31 := Bool.eq_false_iff.mpr c31
       subst c31
       have H1 : (impl_TreeHeights.j2 k2 l1 l2 x8_2 x9_2 (l2.length : Int) x26_1 t112 (t112.length : Int) x32_2 false ((rd_T36 t112 x32_2).f0) ((rd_T36 t112 x32_2).f1) ((rd_T36 t112 x32_2).f2) ((rd_T36 t112 x32_2).f3)) = some (r1, r2) := by rw [if_neg (show ¬ (false = true) by decide)] at H; exact H
       clear H
       have H := H1
       clear H1
       have H' := Aside0.mk H
       clear H
       have hcz35_0 : w26.cell? ⟨gb116, 0, none⟩ = some (.int .i64 0) := (blk_cell BK116.out 0).trans rfl
       have hcz35_1 : w26.cell? ⟨gb116, 1, none⟩ = some (.int .i64 0) := (blk_cell BK116.out 1).trans rfl
       have hcz35_2 : w26.cell? ⟨gb116, 2, none⟩ = some (.int .i64 0) := (blk_cell BK116.out 2).trans rfl
       have hcz35_3 : w26.cell? ⟨gb116, 3, none⟩ = some (.int .i64 0) := (blk_cell BK116.out 3).trans rfl
       have hfz35_0 := blk_frozen BK116.out 0
       have hfz35_1 := blk_frozen BK116.out 1
       have hfz35_2 := blk_frozen BK116.out 2
       have hfz35_3 := blk_frozen BK116.out 3
       have p117 : 0 ≤ (((rd_T36 t112 x32_2).f0) : Int) := od_
       have q117 : ((rd_T36 t112 x32_2).f0) < (x9_2.length : Int) := od_
       obtain ⟨ad117, e117, hx117_0⟩ := Kd.at_bool (Kd.R_reads' HO_9.out).2.2 ((rd_T36 t112 x32_2).f0) p117 q117
       (try rw [← Nbq30.out] at hx117_0)
       obtain rfl : (⟨go10, 0, none⟩ : Addr) = ad117 := (by injection e117)
       (first | simp only [add_plain] at hx117_0 | simp only [add_at] at hx117_0 | simp only [Addr.add, Nat.zero_add] at hx117_0 | skip)
       have hn117_0 : (⟨go10, 0, none⟩ : Addr).block ≠ gb116 := Kd.own_blk (Kd.R_ne HO_9.out BK116.out (by decide))
       have hn117_1 : (⟨go10, 0, none⟩ : Addr).block ≠ gb116 := Kd.own_blk (Kd.R_ne HO_9.out BK116.out (by decide))
       have hn117_2 : (⟨go10, 0, none⟩ : Addr).block ≠ gb116 := Kd.own_blk (Kd.R_ne HO_9.out BK116.out (by decide))
       have hn117_3 : (⟨go10, 0, none⟩ : Addr).block ≠ gb116 := Kd.own_blk (Kd.R_ne HO_9.out BK116.out (by decide))
       replace hx117_0 := (cell_far (p := ⟨gb116, 0, none⟩) (by first | (rw [add_block]; exact hn117_0) | (show (Addr.add _ _).block ≠ _; rw [add_block]; exact hn117_0) | exact hn117_0) (.int .i64 ((rd_T36 t112 x32_2).f0))).trans hx117_0
       replace hx117_0 := (cell_far (p := ⟨gb116, 1, none⟩) (by first | (rw [add_block]; exact hn117_1) | (show (Addr.add _ _).block ≠ _; rw [add_block]; exact hn117_1) | exact hn117_1) (.int .i64 ((rd_T36 t112 x32_2).f1))).trans hx117_0
       replace hx117_0 := (cell_far (p := ⟨gb116, 2, none⟩) (by first | (rw [add_block]; exact hn117_2) | (show (Addr.add _ _).block ≠ _; rw [add_block]; exact hn117_2) | exact hn117_2) (.int .i64 ((rd_T36 t112 x32_2).f2))).trans hx117_0
       replace hx117_0 := (cell_far (p := ⟨gb116, 3, none⟩) (by first | (rw [add_block]; exact hn117_3) | (show (Addr.add _ _).block ≠ _; rw [add_block]; exact hn117_3) | exact hn117_3) (.int .i64 ((rd_T36 t112 x32_2).f3))).trans hx117_0
       clear hn117_0
       clear hn117_1
       clear hn117_2
       clear hn117_3
       replace p117 := eq_true p117
       replace q117 := eq_true q117
       go_wp2
       go_meet
       case rel => exact ⟨_, (false), (by first | rfl | (simp; done) | (simp [*]; done)), H', ⟨by have := HK1.out; have := HK2.out; first | omega | exact Nat.le_refl _⟩, ⟨by (try simp only [hl9_1]); (try simp only [hl9_2]); (with_reducible repeat (first | apply Kd.R_alloc | apply Kd.R_drewN | apply Kd.R_drew)); exact Kd.R_mono (Kd.R_far (p := ⟨gb116, 3, none⟩) (Kd.R_far (p := ⟨gb116, 2, none⟩) (Kd.R_far (p := ⟨gb116, 1, none⟩) (Kd.R_far (p := ⟨gb116, 0, none⟩) (Kd.R_types HO_8.out BK116.out (by decide)) (fun _ hk => hk.2) (.int .i64 ((rd_T36 t112 x32_2).f0))) (fun _ hk => hk.2) (.int .i64 ((rd_T36 t112 x32_2).f1))) (fun _ hk => hk.2) (.int .i64 ((rd_T36 t112 x32_2).f2))) (fun _ hk => hk.2) (.int .i64 ((rd_T36 t112 x32_2).f3))) (fun _ hk => trivial)⟩, ⟨by (try simp only [hl9_1]); (try simp only [hl9_2]); (with_reducible repeat (first | apply Kd.R_alloc | apply Kd.R_drewN | apply Kd.R_drew)); exact Kd.R_mono (Kd.R_far (p := ⟨gb116, 3, none⟩) (Kd.R_far (p := ⟨gb116, 2, none⟩) (Kd.R_far (p := ⟨gb116, 1, none⟩) (Kd.R_far (p := ⟨gb116, 0, none⟩) (Kd.R_types HO_9.out BK116.out (by decide)) (fun _ hk => hk.2) (.int .i64 ((rd_T36 t112 x32_2).f0))) (fun _ hk => hk.2) (.int .i64 ((rd_T36 t112 x32_2).f1))) (fun _ hk => hk.2) (.int .i64 ((rd_T36 t112 x32_2).f2))) (fun _ hk => hk.2) (.int .i64 ((rd_T36 t112 x32_2).f3))) (fun _ hk => trivial)⟩, ⟨by (try simp only [hl9_1]); (try simp only [hl9_2]); (with_reducible repeat (first | apply Kd.R_alloc | apply Kd.R_drewN | apply Kd.R_drew)); exact Kd.R_mono (Kd.R_far (p := ⟨gb116, 3, none⟩) (Kd.R_far (p := ⟨gb116, 2, none⟩) (Kd.R_far (p := ⟨gb116, 1, none⟩) (Kd.R_far (p := ⟨gb116, 0, none⟩) (Kd.R_mono HO_30.out (fun k_ hk => (⟨hk, hk.2⟩ : _ ∧ k_ ≠ gb116))) (fun _ hk => hk.2) (.int .i64 ((rd_T36 t112 x32_2).f0))) (fun _ hk => hk.2) (.int .i64 ((rd_T36 t112 x32_2).f1))) (fun _ hk => hk.2) (.int .i64 ((rd_T36 t112 x32_2).f2))) (fun _ hk => hk.2) (.int .i64 ((rd_T36 t112 x32_2).f3))) (fun _ hk => hk.1.2)⟩, ⟨by (try simp only [hl9_1]); (try simp only [hl9_2]); (with_reducible repeat (first | refine blk_drewN ?_ _ | refine blk_drew ?_ | refine blk_alloc ?_ _)); refine blk_put (cs := #[.int .i64 ((rd_T36 t112 x32_2).f0), .int .i64 ((rd_T36 t112 x32_2).f1), .int .i64 ((rd_T36 t112 x32_2).f2), .int .i64 0]) ?_ 3 _ rfl; (with_reducible repeat (first | refine blk_drewN ?_ _ | refine blk_drew ?_ | refine blk_alloc ?_ _)); refine blk_put (cs := #[.int .i64 ((rd_T36 t112 x32_2).f0), .int .i64 ((rd_T36 t112 x32_2).f1), .int .i64 0, .int .i64 0]) ?_ 2 _ rfl; (with_reducible repeat (first | refine blk_drewN ?_ _ | refine blk_drew ?_ | refine blk_alloc ?_ _)); refine blk_put (cs := #[.int .i64 ((rd_T36 t112 x32_2).f0), .int .i64 0, .int .i64 0, .int .i64 0]) ?_ 1 _ rfl; (with_reducible repeat (first | refine blk_drewN ?_ _ | refine blk_drew ?_ | refine blk_alloc ?_ _)); refine blk_put (cs := #[.int .i64 0, .int .i64 0, .int .i64 0, .int .i64 0]) ?_ 0 _ rfl; (with_reducible repeat (first | refine blk_drewN ?_ _ | refine blk_drew ?_ | refine blk_alloc ?_ _)); exact BK116.out⟩, ⟨by repeat (first | (with_reducible first | exact HB.out | apply below_alloc | apply pw_below_drewN | apply below_drew1 | refine below_set ?_ GE116.out) | exact HB.out)⟩⟩
      subst c31
      have H1 : (if 0 ≤ ((rd_T36 t112 x32_2).f1) then (if ((rd_T36 t112 x32_2).f1) < (x9_2.length : Int) then (impl_TreeHeights.j2 k2 l1 l2 x8_2 x9_2 (l2.length : Int) x26_1 t112 (t112.length : Int) x32_2 (!(rdOf false x9_2 ((rd_T36 t112 x32_2).f1))) ((rd_T36 t112 x32_2).f0) ((rd_T36 t112 x32_2).f1) ((rd_T36 t112 x32_2).f2) ((rd_T36 t112 x32_2).f3)) else (none)) else (none)) = some (r1, r2) := by rw [if_pos rfl] at H; exact H
      clear H
      have H := H1
      clear H1
      by_cases c32 : 0 ≤ ((rd_T36 t112 x32_2).f1)
      rotate_left
      ·rw [if_neg c32] at H
       exact absurd H (by simp)
      rw [if_pos c32] at H
      have c32b0 : decide (0 ≤ ((rd_T36 t112 x32_2).f1)) = true := decide_eq_true c32
      clear c32
      by_cases c33 : ((rd_T36 t112 x32_2).f1) < (x9_2.length : Int)
      rotate_left
      ·rw [if_neg c33] at H
       exact absurd H (by simp)
      rw [if_pos c33] at H
      have c33b0 : decide (((rd_T36 t112 x32_2).f1) < (x9_2.length : Int)) = true := decide_eq_true c33
      clear c33
      have H' := Aside0.mk H
      clear H
      have hcz34_0 : w26.cell? ⟨gb116, 0, none⟩ = some (.int .i64 0) := (blk_cell BK116.out 0).trans rfl
      have hcz34_1 : w26.cell? ⟨gb116, 1, none⟩ = some (.int .i64 0) := (blk_cell BK116.out 1).trans rfl
      have hcz34_2 : w26.cell? ⟨gb116, 2, none⟩ = some (.int .i64 0) := (blk_cell BK116.out 2).trans rfl
      have hcz34_3 : w26.cell? ⟨gb116, 3, none⟩ = some (.int .i64 0) := (blk_cell BK116.out 3).trans rfl
      have hfz34_0 := blk_frozen BK116.out 0
      have hfz34_1 := blk_frozen BK116.out 1
      have hfz34_2 := blk_frozen BK116.out 2
      have hfz34_3 := blk_frozen BK116.out 3
      have p117 : 0 ≤ (((rd_T36 t112 x32_2).f0) : Int) := od_
      have q117 : ((rd_T36 t112 x32_2).f0) < (x9_2.length : Int) := od_
      obtain ⟨ad117, e117, hx117_0⟩ := Kd.at_bool (Kd.R_reads' HO_9.out).2.2 ((rd_T36 t112 x32_2).f0) p117 q117
      (try rw [← Nbq30.out] at hx117_0)
      obtain rfl : (⟨go10, 0, none⟩ : Addr) = ad117 := (by injection e117)
      (first | simp only [add_plain] at hx117_0 | simp only [add_at] at hx117_0 | simp only [Addr.add, Nat.zero_add] at hx117_0 | skip)
      have hn117_0 : (⟨go10, 0, none⟩ : Addr).block ≠ gb116 := Kd.own_blk (Kd.R_ne HO_9.out BK116.out (by decide))
      have hn117_1 : (⟨go10, 0, none⟩ : Addr).block ≠ gb116 := Kd.own_blk (Kd.R_ne HO_9.out BK116.out (by decide))
      have hn117_2 : (⟨go10, 0, none⟩ : Addr).block ≠ gb116 := Kd.own_blk (Kd.R_ne HO_9.out BK116.out (by decide))
      have hn117_3 : (⟨go10, 0, none⟩ : Addr).block ≠ gb116 := Kd.own_blk (Kd.R_ne HO_9.out BK116.out (by decide))
      replace hx117_0 := (cell_far (p := ⟨gb116, 0, none⟩) (by first | (rw [add_block]; exact hn117_0) | (show (Addr.add _ _).block ≠ _; rw [add_block]; exact hn117_0) | exact hn117_0) (.int .i64 ((rd_T36 t112 x32_2).f0))).trans hx117_0
      replace hx117_0 := (cell_far (p := ⟨gb116, 1, none⟩) (by first | (rw [add_block]; exact hn117_1) | (show (Addr.add _ _).block ≠ _; rw [add_block]; exact hn117_1) | exact hn117_1) (.int .i64 ((rd_T36 t112 x32_2).f1))).trans hx117_0
      replace hx117_0 := (cell_far (p := ⟨gb116, 2, none⟩) (by first | (rw [add_block]; exact hn117_2) | (show (Addr.add _ _).block ≠ _; rw [add_block]; exact hn117_2) | exact hn117_2) (.int .i64 ((rd_T36 t112 x32_2).f2))).trans hx117_0
      replace hx117_0 := (cell_far (p := ⟨gb116, 3, none⟩) (by first | (rw [add_block]; exact hn117_3) | (show (Addr.add _ _).block ≠ _; rw [add_block]; exact hn117_3) | exact hn117_3) (.int .i64 ((rd_T36 t112 x32_2).f3))).trans hx117_0
      clear hn117_0
      clear hn117_1
      clear hn117_2
      clear hn117_3
      replace p117 := eq_true p117
      replace q117 := eq_true q117
      have p118 : 0 ≤ (((rd_T36 t112 x32_2).f1) : Int) := od_
      have q118 : ((rd_T36 t112 x32_2).f1) < (x9_2.length : Int) := od_
      obtain ⟨ad118, e118, hx118_0⟩ := Kd.at_bool (Kd.R_reads' HO_9.out).2.2 ((rd_T36 t112 x32_2).f1) p118 q118
      (try rw [← Nbq30.out] at hx118_0)
      obtain rfl : (⟨go10, 0, none⟩ : Addr) = ad118 := (by injection e118)
      (first | simp only [add_plain] at hx118_0 | simp only [add_at] at hx118_0 | simp only [Addr.add, Nat.zero_add] at hx118_0 | skip)
      have hn118_0 : (⟨go10, 0, none⟩ : Addr).block ≠ gb116 := Kd.own_blk (Kd.R_ne HO_9.out BK116.out (by decide))
      have hn118_1 : (⟨go10, 0, none⟩ : Addr).block ≠ gb116 := Kd.own_blk (Kd.R_ne HO_9.out BK116.out (by decide))
      have hn118_2 : (⟨go10, 0, none⟩ : Addr).block ≠ gb116 := Kd.own_blk (Kd.R_ne HO_9.out BK116.out (by decide))
      have hn118_3 : (⟨go10, 0, none⟩ : Addr).block ≠ gb116 := Kd.own_blk (Kd.R_ne HO_9.out BK116.out (by decide))
      replace hx118_0 := (cell_far (p := ⟨gb116, 0, none⟩) (by first | (rw [add_block]; exact hn118_0) | (show (Addr.add _ _).block ≠ _; rw [add_block]; exact hn118_0) | exact hn118_0) (.int .i64 ((rd_T36 t112 x32_2).f0))).trans hx118_0
      replace hx118_0 := (cell_far (p := ⟨gb116, 1, none⟩) (by first | (rw [add_block]; exact hn118_1) | (show (Addr.add _ _).block ≠ _; rw [add_block]; exact hn118_1) | exact hn118_1) (.int .i64 ((rd_T36 t112 x32_2).f1))).trans hx118_0
      replace hx118_0 := (cell_far (p := ⟨gb116, 2, none⟩) (by first | (rw [add_block]; exact hn118_2) | (show (Addr.add _ _).block ≠ _; rw [add_block]; exact hn118_2) | exact hn118_2) (.int .i64 ((rd_T36 t112 x32_2).f2))).trans hx118_0
      replace hx118_0 := (cell_far (p := ⟨gb116, 3, none⟩) (by first | (rw [add_block]; exact hn118_3) | (show (Addr.add _ _).block ≠ _; rw [add_block]; exact hn118_3) | exact hn118_3) (.int .i64 ((rd_T36 t112 x32_2).f3))).trans hx118_0
      clear hn118_0
      clear hn118_1
      clear hn118_2
      clear hn118_3
      replace p118 := eq_true p118
      replace q118 := eq_true q118
      go_wp2
      go_meet
      case rel => exact ⟨_, (!(rdOf false x9_2 ((rd_T36 t112 x32_2).f1))), (by first | rfl | (simp; done) | (simp [*]; done)), H', ⟨by have := HK1.out; have := HK2.out; first | omega | exact Nat.le_refl _⟩, ⟨by (try simp only [hl9_1]); (try simp only [hl9_2]); (with_reducible repeat (first | apply Kd.R_alloc | apply Kd.R_drewN | apply Kd.R_drew)); exact Kd.R_mono (Kd.R_far (p := ⟨gb116, 3, none⟩) (Kd.R_far (p := ⟨gb116, 2, none⟩) (Kd.R_far (p := ⟨gb116, 1, none⟩) (Kd.R_far (p := ⟨gb116, 0, none⟩) (Kd.R_types HO_8.out BK116.out (by decide)) (fun _ hk => hk.2) (.int .i64 ((rd_T36 t112 x32_2).f0))) (fun _ hk => hk.2) (.int .i64 ((rd_T36 t112 x32_2).f1))) (fun _ hk => hk.2) (.int .i64 ((rd_T36 t112 x32_2).f2))) (fun _ hk => hk.2) (.int .i64 ((rd_T36 t112 x32_2).f3))) (fun _ hk => trivial)⟩, ⟨by (try simp only [hl9_1]); (try simp only [hl9_2]); (with_reducible repeat (first | apply Kd.R_alloc | apply Kd.R_drewN | apply Kd.R_drew)); exact Kd.R_mono (Kd.R_far (p := ⟨gb116, 3, none⟩) (Kd.R_far (p := ⟨gb116, 2, none⟩) (Kd.R_far (p := ⟨gb116, 1, none⟩) (Kd.R_far (p := ⟨gb116, 0, none⟩) (Kd.R_types HO_9.out BK116.out (by decide)) (fun _ hk => hk.2) (.int .i64 ((rd_T36 t112 x32_2).f0))) (fun _ hk => hk.2) (.int .i64 ((rd_T36 t112 x32_2).f1))) (fun _ hk => hk.2) (.int .i64 ((rd_T36 t112 x32_2).f2))) (fun _ hk => hk.2) (.int .i64 ((rd_T36 t112 x32_2).f3))) (fun _ hk => trivial)⟩, ⟨by (try simp only [hl9_1]); (try simp only [hl9_2]); (with_reducible repeat (first | apply Kd.R_alloc | apply Kd.R_drewN | apply Kd.R_drew)); exact Kd.R_mono (Kd.R_far (p := ⟨gb116, 3, none⟩) (Kd.R_far (p := ⟨gb116, 2, none⟩) (Kd.R_far (p := ⟨gb116, 1, none⟩) (Kd.R_far (p := ⟨gb116, 0, none⟩) (Kd.R_mono HO_30.out (fun k_ hk => (⟨hk, hk.2⟩ : _ ∧ k_ ≠ gb116))) (fun _ hk => hk.2) (.int .i64 ((rd_T36 t112 x32_2).f0))) (fun _ hk => hk.2) (.int .i64 ((rd_T36 t112 x32_2).f1))) (fun _ hk => hk.2) (.int .i64 ((rd_T36 t112 x32_2).f2))) (fun _ hk => hk.2) (.int .i64 ((rd_T36 t112 x32_2).f3))) (fun _ hk => hk.1.2)⟩, ⟨by (try simp only [hl9_1]); (try simp only [hl9_2]); (with_reducible repeat (first | refine blk_drewN ?_ _ | refine blk_drew ?_ | refine blk_alloc ?_ _)); refine blk_put (cs := #[.int .i64 ((rd_T36 t112 x32_2).f0), .int .i64 ((rd_T36 t112 x32_2).f1), .int .i64 ((rd_T36 t112 x32_2).f2), .int .i64 0]) ?_ 3 _ rfl; (with_reducible repeat (first | refine blk_drewN ?_ _ | refine blk_drew ?_ | refine blk_alloc ?_ _)); refine blk_put (cs := #[.int .i64 ((rd_T36 t112 x32_2).f0), .int .i64 ((rd_T36 t112 x32_2).f1), .int .i64 0, .int .i64 0]) ?_ 2 _ rfl; (with_reducible repeat (first | refine blk_drewN ?_ _ | refine blk_drew ?_ | refine blk_alloc ?_ _)); refine blk_put (cs := #[.int .i64 ((rd_T36 t112 x32_2).f0), .int .i64 0, .int .i64 0, .int .i64 0]) ?_ 1 _ rfl; (with_reducible repeat (first | refine blk_drewN ?_ _ | refine blk_drew ?_ | refine blk_alloc ?_ _)); refine blk_put (cs := #[.int .i64 0, .int .i64 0, .int .i64 0, .int .i64 0]) ?_ 0 _ rfl; (with_reducible repeat (first | refine blk_drewN ?_ _ | refine blk_drew ?_ | refine blk_alloc ?_ _)); exact BK116.out⟩, ⟨by repeat (first | (with_reducible first | exact HB.out | apply below_alloc | apply pw_below_drewN | apply below_drew1 | refine below_set ?_ GE116.out) | exact HB.out)⟩⟩
     case rest =>
      clear HC25
      try clear c1; try clear p1; try clear q1; try clear hx1; try clear qi1; try clear c2; try clear p2; try clear c3; try clear q3; try clear c4; try clear c5; try clear c6; try clear c6b0; try clear c6b1; try clear c7; try clear c7b0; try clear c7b1; try clear c8; try clear c8b0; try clear c8b1; try clear c9; try clear c9b0; try clear c9b1; try clear c10; try clear p10; try clear q10; try clear hx10; try clear qi10; try clear hf10; try clear p11; try clear q11; try clear hx11; try clear c18; try clear c18b0; try clear c22; try clear c22b0; try clear c23; try clear c23b0; try clear c24; try clear c24b0; try clear c28; try clear c28b0; try clear c29; try clear c29b0; try clear q30; try clear c31; try clear c32; try clear c32b0; try clear c33; try clear c33b0; try clear hcz27_0; try clear hcz27_1; try clear hcz27_2; try clear hcz27_3; try clear hcz34_0; try clear hcz34_1; try clear hcz34_2; try clear hcz34_3; try clear hcz35_0; try clear hcz35_1; try clear hcz35_2; try clear hcz35_3; try clear hfz27_0; try clear hfz27_1; try clear hfz27_2; try clear hfz27_3; try clear hfz34_0; try clear hfz34_1; try clear hfz34_2; try clear hfz34_3; try clear hfz35_0; try clear hfz35_1; try clear hfz35_2; try clear hfz35_3; try clear hx10_0; try clear hx115_0; try clear hx115_1; try clear hx115_2; try clear hx115_3; try clear hx117_0; try clear hx118_0; try clear p1; try clear p10; try clear p115; try clear p117; try clear p118; try clear p2; try clear q1; try clear q10; try clear q115; try clear q117; try clear q118
      obtain ⟨kq, x36_24, rfl, HA, HJ24, HO_8, HO_9, HO_30, BK116, HB⟩ := hcut
      cases kq with
      | zero => exact absurd HA.out (by simp [impl_TreeHeights.j2])
      | succ kj24 =>
       have H := HA.out
       clear HA
       simp only [impl_TreeHeights.j2] at H
       by_cases c36 : x36_24 = true
       ·subst c36
        have H1 : (if 0 ≤ ((rd_T36 t112 x32_2).f0) then (if ((rd_T36 t112 x32_2).f0) < (x8_2.length : Int) then (if 0 ≤ ((rd_T36 t112 x32_2).f1) then (if ((rd_T36 t112 x32_2).f1) < (x8_2.length : Int) then (if ((rd_T36 t112 x32_2).f1) < (x9_2.length : Int) then (impl_TreeHeights.l1 kj24 l1 l2 (x8_2.set (((rd_T36 t112 x32_2).f1) : Int).toNat (wrap64 ((rd x8_2 ((rd_T36 t112 x32_2).f0)) + ((rd_T36 t112 x32_2).f2)))) (x9_2.set (((rd_T36 t112 x32_2).f1) : Int).toNat true) (l2.length : Int) x26_1 t112 (t112.length : Int) (wrap64 (x32_2 + 1))) else (none)) else (none)) else (none)) else (none)) else (none)) = some (r1, r2) := by rw [if_pos rfl] at H; exact H
        clear H
        have H := H1
        clear H1
        by_cases c37 : 0 ≤ ((rd_T36 t112 x32_2).f0)
        rotate_left
        ·rw [if_neg c37] at H
         exact absurd H (by simp)
        rw [if_pos c37] at H
        have c37b0 : decide (0 ≤ ((rd_T36 t112 x32_2).f0)) = true := decide_eq_true c37
        clear c37
        by_cases c38 : ((rd_T36 t112 x32_2).f0) < (x8_2.length : Int)
        rotate_left
        ·rw [if_neg c38] at H
         exact absurd H (by simp)
        rw [if_pos c38] at H
        have c38b0 : decide (((rd_T36 t112 x32_2).f0) < (x8_2.length : Int)) = true := decide_eq_true c38
        clear c38
        by_cases c39 : 0 ≤ ((rd_T36 t112 x32_2).f1)
        rotate_left
        ·rw [if_neg c39] at H
         exact absurd H (by simp)
        rw [if_pos c39] at H
        have c39b0 : decide (0 ≤ ((rd_T36 t112 x32_2).f1)) = true := decide_eq_true c39
        clear c39
        by_cases c40 : ((rd_T36 t112 x32_2).f1) < (x8_2.length : Int)
        rotate_left
        ·rw [if_neg c40] at H
         exact absurd H (by simp)
        rw [if_pos c40] at H
        have c40b0 : decide (((rd_T36 t112 x32_2).f1) < (x8_2.length : Int)) = true := decide_eq_true c40
        clear c40
        obtain ⟨y120, hy120⟩ : ∃ y_ : List Int, y_ = (x8_2.set (((rd_T36 t112 x32_2).f1) : Int).toNat (wrap64 ((rd x8_2 ((rd_T36 t112 x32_2).f0)) + ((rd_T36 t112 x32_2).f2)))) := ⟨_, rfl⟩
        replace H : (if ((rd_T36 t112 x32_2).f1) < (x9_2.length : Int) then (impl_TreeHeights.l1 kj24 l1 l2 y120 (x9_2.set (((rd_T36 t112 x32_2).f1) : Int).toNat true) (l2.length : Int) x26_1 t112 (t112.length : Int) (wrap64 (x32_2 + 1))) else (none)) = some (r1, r2) := by first | (rw [hy120]; with_reducible exact H) | (have H2_ := (Option.bind_some _ _).symm.trans H; rw [hy120]; with_reducible exact H2_) | (have H2_ := (Option.bind_some _ _).symm.trans H; with_reducible exact H2_) | with_reducible exact H | (rw [hy120]; exact H) | exact H
        have Ny120 := Aside0.mk hy120
        clear hy120
        by_cases c42 : ((rd_T36 t112 x32_2).f1) < (x9_2.length : Int)
        rotate_left
        ·rw [if_neg c42] at H
         exact absurd H (by simp)
        rw [if_pos c42] at H
        have c42b0 : decide (((rd_T36 t112 x32_2).f1) < (x9_2.length : Int)) = true := decide_eq_true c42
        clear c42
        obtain ⟨y121, hy121⟩ : ∃ y_ : List Bool, y_ = (x9_2.set (((rd_T36 t112 x32_2).f1) : Int).toNat true) := ⟨_, rfl⟩
        replace H : (impl_TreeHeights.l1 kj24 l1 l2 y120 y121 (l2.length : Int) x26_1 t112 (t112.length : Int) (wrap64 (x32_2 + 1))) = some (r1, r2) := by first | (rw [hy121]; with_reducible exact H) | (have H2_ := (Option.bind_some _ _).symm.trans H; rw [hy121]; with_reducible exact H2_) | (have H2_ := (Option.bind_some _ _).symm.trans H; with_reducible exact H2_) | with_reducible exact H | (rw [hy121]; exact H) | exact H
        have Ny121 := Aside0.mk hy121
        clear hy121
        have H' := Aside0.mk H
        clear H
        try go_wp2
        have n0_ := Aside0.mk (Kd.R_drew HO_8.out)
        have n1_ := Aside0.mk (Kd.R_drew HO_9.out)
        have n2_ := Aside0.mk (Kd.R_drew HO_30.out)
        have n3_ := Aside0.mk (blk_drew BK116.out)
        have n4_ := Aside0.mk (below_drew1 HB.out)
        clear HO_8
        clear HO_9
        clear HO_30
        clear BK116
        clear HB
        have HO_8 := n0_
        have HO_9 := n1_
        have HO_30 := n2_
        have BK116 := n3_
        have HB := n4_
        clear n0_ n1_ n2_ n3_ n4_
        obtain ⟨Ao45, co45, eo45⟩ := Kd.R_slice HO_8.out
        (first | subst eo45 | (injection eo45 with f1_ f2_ f3_; have f4_ := f1_.symm; have f5_ := f3_.symm; clear f1_ f2_ f3_; subst f4_; subst f5_))
        have p119 : 0 ≤ (((rd_T36 t112 x32_2).f0) : Int) := od_
        have q119 : ((rd_T36 t112 x32_2).f0) < (x8_2.length : Int) := od_
        obtain ⟨ad119, e119, hx119_0⟩ := Kd.at_int (Kd.R_reads' HO_8.out).2.2 ((rd_T36 t112 x32_2).f0) p119 q119
        cases e119
        replace p119 := eq_true p119
        replace q119 := eq_true q119
        have p41 : 0 ≤ (((rd_T36 t112 x32_2).f1) : Int) := od_
        have q41 : (((rd_T36 t112 x32_2).f1) : Int) < ((x8_2.length : Int) : Int) := od_
        obtain ⟨go41, co41, eo41, gb41, gl41, cl41, HG41⟩ := Kd.R_form HO_8.out (by omega)
        (first | cases eo41 | (injection eo41 with ea_ en_ ec_; (first | subst ea_ | (injection ea_ with ea_; subst ea_)); subst ec_; clear en_))
        have GB41 := Aside0.mk gb41
        have GG41 := Aside0.mk HG41
        clear gb41 gl41 HG41
        (first | simp only [add_plain] at hx119_0 | skip)
        obtain ⟨hx41_0, hf41_0⟩ := Kd.R_celln 0 HO_8.out (((rd_T36 t112 x32_2).f1) : Int) p41 q41
        replace p41 := eq_true p41
        replace q41 := eq_true q41
        have HP46 := Kd.R_putn HO_8.out (((rd_T36 t112 x32_2).f1) : Int) (wrap64 ((rd x8_2 ((rd_T36 t112 x32_2).f0)) + ((rd_T36 t112 x32_2).f2)))
        rw [← Ny120.out] at HP46
        have HQ46 := Aside0.mk HP46
        clear HP46
        refine start_ (n := 13) (S := fun w' => w'.cell? ⟨gb116, 0, none⟩ = some (.int .i64 ((rd_T36 t112 x32_2).f0)) ∧ w'.cell? ⟨gb116, 1, none⟩ = some (.int .i64 ((rd_T36 t112 x32_2).f1)) ∧ w'.cell? ⟨gb116, 2, none⟩ = some (.int .i64 ((rd_T36 t112 x32_2).f2)) ∧ w'.cell? ⟨gb116, 3, none⟩ = some (.int .i64 ((rd_T36 t112 x32_2).f3)) ∧ w'.cell? (⟨go41, (((rd_T36 t112 x32_2).f0)).toNat, none⟩ : Addr) = some (.int .i64 (rd x8_2 ((rd_T36 t112 x32_2).f0)))) (ds := [12]) #[false, false, false, false, false, false, false, false, false, false, false, false, false] (by kernel_rfl) rfl rfl ⟨(blk_cell BK116.out 0).trans rfl, (blk_cell BK116.out 1).trans rfl, (blk_cell BK116.out 2).trans rfl, (blk_cell BK116.out 3).trans rfl, hx119_0⟩ (fun hHeld => ?_); refine with_tabW impl_TreeHeights.tab12 impl_TreeHeights.bits12 (fun HT_ HW_ => ?_)
        generalize wc.drew = w44 at HO_8 HO_9 HO_30 BK116 HB GG41 HQ46 hf41_0 hx119_0 hx41_0 hHeld ⊢
        refine pure_ (i := 0) (N := some 50) (v := ?_) (a' := ?_) #[true, false, false, false, false, false, false, false, false, false, false, false, false] rfl rfl (any_of HT_.out (by kernel_rfl)) (fun _ _ _ h => h) (Or.inl ⟨by rfl, ?_⟩) ?_ ?_
        rotate_left
        ·intro w'
         go_simp
         with_reducible rfl
        rotate_left
        ·simp only [Act.put, List.setIfInBounds_toArray, List.set_cons_zero, List.set_cons_succ, i64_w, i32_w]
         rfl
        refine pure_ (i := 1) (N := some 51) (v := ?_) (a' := ?_) #[true, true, false, false, false, false, false, false, false, false, false, false, false] rfl rfl (any_of HT_.out (by kernel_rfl)) (fun _ _ _ h => h) (Or.inl ⟨by rfl, ?_⟩) ?_ ?_
        rotate_left
        ·intro w'
         go_simp
         with_reducible rfl
        rotate_left
        ·simp only [Act.put, List.setIfInBounds_toArray, List.set_cons_zero, List.set_cons_succ, i64_w, i32_w]
         rfl
        refine pure_ (i := 3) (N := some 53) (v := ?_) (a' := ?_) #[true, true, false, true, false, false, false, false, false, false, false, false, false] rfl rfl (any_of HT_.out (by kernel_rfl)) (fun _ _ _ h => h) (Or.inl ⟨by rfl, ?_⟩) ?_ ?_
        rotate_left
        ·intro w'
         go_simp
         with_reducible rfl
        rotate_left
        ·simp only [Act.put, List.setIfInBounds_toArray, List.set_cons_zero, List.set_cons_succ, i64_w, i32_w]
         rfl
        refine pure_ (i := 4) (N := some 54) (v := ?_) (a' := ?_) #[true, true, false, true, true, false, false, false, false, false, false, false, false] rfl rfl (any_of HT_.out (by kernel_rfl)) (fun _ _ _ h => h) (Or.inl ⟨by rfl, ?_⟩) ?_ ?_
        rotate_left
        ·intro w'
         go_simp
         with_reducible rfl
        rotate_left
        ·simp only [Act.put, List.setIfInBounds_toArray, List.set_cons_zero, List.set_cons_succ, i64_w, i32_w]
         rfl
        refine pure_ (i := 8) (N := some 58) (v := ?_) (a' := ?_) #[true, true, false, true, true, false, false, false, true, false, false, false, false] rfl rfl (any_of HT_.out (by kernel_rfl)) (fun _ _ _ h => h) (Or.inl ⟨by rfl, ?_⟩) ?_ ?_
        rotate_left
        ·intro w'
         go_simp
         with_reducible rfl
        rotate_left
        ·simp only [Act.put, List.setIfInBounds_toArray, List.set_cons_zero, List.set_cons_succ, i64_w, i32_w]
         rfl
        refine take_ (i := 2) (N := some 52) (v := ?_) (a' := ?_) #[true, true, true, true, true, false, false, false, true, false, false, false, false] rfl rfl (take_ofW HT_.out HW_.out (by kernel_rfl)) (fun _ _ _ h => h) (Or.inl ⟨by rfl, ?_⟩) hHeld ?_ ?_
        rotate_left
        ·rintro w' ⟨s0, s1, s2, s3, s4⟩
         go_simp
         with_reducible rfl
        rotate_left
        ·simp only [Act.put, List.setIfInBounds_toArray, List.set_cons_zero, List.set_cons_succ, i64_w, i32_w]
         rfl
        refine take_ (i := 5) (N := some 55) (v := ?_) (a' := ?_) #[true, true, true, true, true, true, false, false, true, false, false, false, false] rfl rfl (take_ofW HT_.out HW_.out (by kernel_rfl)) (fun _ _ _ h => h) (Or.inl ⟨by rfl, ?_⟩) hHeld ?_ ?_
        rotate_left
        ·rintro w' ⟨s0, s1, s2, s3, s4⟩
         go_simp
         with_reducible rfl
        rotate_left
        ·simp only [Act.put, List.setIfInBounds_toArray, List.set_cons_zero, List.set_cons_succ, i64_w, i32_w]
         rfl
        refine pure_ (i := 6) (N := some 56) (v := ?_) (a' := ?_) #[true, true, true, true, true, true, true, false, true, false, false, false, false] rfl rfl (any_of HT_.out (by kernel_rfl)) (fun _ _ _ h => h) (Or.inl ⟨by rfl, ?_⟩) ?_ ?_
        rotate_left
        ·intro w'
         go_simp
         with_reducible rfl
        rotate_left
        ·simp only [Act.put, List.setIfInBounds_toArray, List.set_cons_zero, List.set_cons_succ, i64_w, i32_w]
         rfl
        refine take_ (i := 7) (N := some 57) (v := ?_) (a' := ?_) #[true, true, true, true, true, true, true, true, true, false, false, false, false] rfl rfl (take_ofW HT_.out HW_.out (by kernel_rfl)) (fun _ _ _ h => h) (Or.inl ⟨by rfl, ?_⟩) hHeld ?_ ?_
        rotate_left
        ·rintro w' ⟨s0, s1, s2, s3, s4⟩
         go_simp
         with_reducible rfl
        rotate_left
        ·simp only [Act.put, List.setIfInBounds_toArray, List.set_cons_zero, List.set_cons_succ, i64_w, i32_w]
         rfl
        refine take_ (i := 9) (N := some 59) (v := ?_) (a' := ?_) #[true, true, true, true, true, true, true, true, true, true, false, false, false] rfl rfl (take_ofW HT_.out HW_.out (by kernel_rfl)) (fun _ _ _ h => h) (Or.inl ⟨by rfl, ?_⟩) hHeld ?_ ?_
        rotate_left
        ·rintro w' ⟨s0, s1, s2, s3, s4⟩
         go_simp
         with_reducible rfl
        rotate_left
        ·simp only [Act.put, List.setIfInBounds_toArray, List.set_cons_zero, List.set_cons_succ, i64_w, i32_w]
         rfl
        refine pure_ (i := 10) (N := some 60) (v := ?_) (a' := ?_) #[true, true, true, true, true, true, true, true, true, true, true, false, false] rfl rfl (any_of HT_.out (by kernel_rfl)) (fun _ _ _ h => h) (Or.inl ⟨by rfl, ?_⟩) ?_ ?_
        rotate_left
        ·intro w'
         go_simp
         with_reducible rfl
        rotate_left
        ·simp only [Act.put, List.setIfInBounds_toArray, List.set_cons_zero, List.set_cons_succ, i64_w, i32_w]
         rfl
        refine pure_ (i := 11) (N := some 61) (v := ?_) (a' := ?_) #[true, true, true, true, true, true, true, true, true, true, true, true, false] rfl rfl (any_of HT_.out (by kernel_rfl)) (fun _ _ _ h => h) (Or.inl ⟨by rfl, ?_⟩) ?_ ?_
        rotate_left
        ·intro w'
         go_simp
         with_reducible rfl
        rotate_left
        ·simp only [Act.put, List.setIfInBounds_toArray, List.set_cons_zero, List.set_cons_succ, i64_w, i32_w]
         rfl
        refine last_ (i := 12) (N := none) #[true, true, true, true, true, true, true, true, true, true, true, true, true] rfl rfl (one_of HT_.out (by kernel_rfl)) (by decide) (fun K hK => ?_)
        refine skip_ (w1 := ?_) (by rfl) rfl ?_ ?_
        rotate_left
        ·go_simp
         rfl
        refine hK.out _ _ ?_
        clear hK K
        refine done_ (done_of HT_.out (by kernel_rfl)) ?_
        have n0_ : Aside0 (Kd.R (Kd.int .i64) 3 (w44.setCell ⟨go41, (((rd_T36 t112 x32_2).f1) : Int).toNat, none⟩ (.int .i64 (wrap64 ((rd x8_2 ((rd_T36 t112 x32_2).f0)) + ((rd_T36 t112 x32_2).f2))))) w.heap.size (fun _ => True) (.slice (some ⟨go41, 0, none⟩) x8_2.length co45) y120) := ⟨by (with_reducible repeat (first | apply Kd.R_alloc | apply Kd.R_drewN | apply Kd.R_drew)); exact HQ46.out⟩
        have n1_ : Aside0 (Kd.R Kd.bool 4 (w44.setCell ⟨go41, (((rd_T36 t112 x32_2).f1) : Int).toNat, none⟩ (.int .i64 (wrap64 ((rd x8_2 ((rd_T36 t112 x32_2).f0)) + ((rd_T36 t112 x32_2).f2))))) w.heap.size (fun _ => True) (.slice (some ⟨go10, 0, none⟩) x9_2.length co10) x9_2) := ⟨by (with_reducible repeat (first | apply Kd.R_alloc | apply Kd.R_drewN | apply Kd.R_drew)); exact Kd.R_mono (Kd.R_far (p := ⟨go41, (((rd_T36 t112 x32_2).f1) : Int).toNat, none⟩) (Kd.R_types HO_9.out GG41.out (by decide)) (fun _ hk => hk.2) (.int .i64 (wrap64 ((rd x8_2 ((rd_T36 t112 x32_2).f0)) + ((rd_T36 t112 x32_2).f2))))) (fun _ hk => trivial)⟩
        have n2_ : Aside0 (Kd.R k36 36 (w44.setCell ⟨go41, (((rd_T36 t112 x32_2).f1) : Int).toNat, none⟩ (.int .i64 (wrap64 ((rd x8_2 ((rd_T36 t112 x32_2).f0)) + ((rd_T36 t112 x32_2).f2))))) w.heap.size (fun k_ => k_ ≠ gb116) (.slice (some ad115) t112.length co21) t112) := ⟨by (with_reducible repeat (first | apply Kd.R_alloc | apply Kd.R_drewN | apply Kd.R_drew)); exact Kd.R_mono (Kd.R_far (p := ⟨go41, (((rd_T36 t112 x32_2).f1) : Int).toNat, none⟩) (Kd.R_types HO_30.out GG41.out (by decide)) (fun _ hk => hk.2) (.int .i64 (wrap64 ((rd x8_2 ((rd_T36 t112 x32_2).f0)) + ((rd_T36 t112 x32_2).f2))))) (fun _ hk => hk.1)⟩
        have n3_ : Aside0 ((w44.setCell ⟨go41, (((rd_T36 t112 x32_2).f1) : Int).toNat, none⟩ (.int .i64 (wrap64 ((rd x8_2 ((rd_T36 t112 x32_2).f0)) + ((rd_T36 t112 x32_2).f2))))).heap[gb116]? = some (.cells #[.int .i64 ((rd_T36 t112 x32_2).f0), .int .i64 ((rd_T36 t112 x32_2).f1), .int .i64 ((rd_T36 t112 x32_2).f2), .int .i64 ((rd_T36 t112 x32_2).f3)] 36 (0, 0))) := ⟨by (with_reducible repeat (first | refine blk_drewN ?_ _ | refine blk_drew ?_ | refine blk_alloc ?_ _)); refine blk_far ?_ (by have h_ := Kd.R_ne HO_8.out BK116.out (by decide); intro e_; exact h_ (by rw [e_]; rfl)) _; (with_reducible repeat (first | refine blk_drewN ?_ _ | refine blk_drew ?_ | refine blk_alloc ?_ _)); exact BK116.out⟩
        have n4_ : Aside0 (Below w.heap.size w (w44.setCell ⟨go41, (((rd_T36 t112 x32_2).f1) : Int).toNat, none⟩ (.int .i64 (wrap64 ((rd x8_2 ((rd_T36 t112 x32_2).f0)) + ((rd_T36 t112 x32_2).f2)))))) := ⟨by repeat (first | (with_reducible first | exact HB.out | apply below_alloc | apply pw_below_drewN | apply below_drew1 | refine below_set ?_ GB41.out | refine below_set ?_ GE116.out) | exact HB.out)⟩
        (try clear HO_8)
        (try clear HO_9)
        (try clear HO_30)
        (try clear BK116)
        (try clear HB)
        generalize (w44.setCell ⟨go41, (((rd_T36 t112 x32_2).f1) : Int).toNat, none⟩ (.int .i64 (wrap64 ((rd x8_2 ((rd_T36 t112 x32_2).f0)) + ((rd_T36 t112 x32_2).f2))))) = w47 at n0_ n1_ n2_ n3_ n4_ ⊢
        have HO_8 := n0_
        have HO_9 := n1_
        have HO_30 := n2_
        have BK116 := n3_
        have HB := n4_
        clear n0_ n1_ n2_ n3_ n4_
        have hcz48_0 : w47.cell? ⟨gb116, 0, none⟩ = some (.int .i64 ((rd_T36 t112 x32_2).f0)) := (blk_cell BK116.out 0).trans rfl
        have hcz48_1 : w47.cell? ⟨gb116, 1, none⟩ = some (.int .i64 ((rd_T36 t112 x32_2).f1)) := (blk_cell BK116.out 1).trans rfl
        have hcz48_2 : w47.cell? ⟨gb116, 2, none⟩ = some (.int .i64 ((rd_T36 t112 x32_2).f2)) := (blk_cell BK116.out 2).trans rfl
        have hcz48_3 : w47.cell? ⟨gb116, 3, none⟩ = some (.int .i64 ((rd_T36 t112 x32_2).f3)) := (blk_cell BK116.out 3).trans rfl
        have hfz48_0 := blk_frozen BK116.out 0
        have hfz48_1 := blk_frozen BK116.out 1
        have hfz48_2 := blk_frozen BK116.out 2
        have hfz48_3 := blk_frozen BK116.out 3
        have p43 : 0 ≤ (((rd_T36 t112 x32_2).f1) : Int) := od_
        have q43 : (((rd_T36 t112 x32_2).f1) : Int) < ((x9_2.length : Int) : Int) := od_
        obtain ⟨hx43_0, hf43_0⟩ := Kd.R_celln false HO_9.out (((rd_T36 t112 x32_2).f1) : Int) p43 q43
        replace p43 := eq_true p43
        replace q43 := eq_true q43
        obtain ⟨hy49_, hz49_⟩ := Kd.R_celln false HO_9.out (((rd_T36 t112 x32_2).f1) : Int) (od_) (od_)
        have HP49 := Kd.R_putg HO_9.out (((rd_T36 t112 x32_2).f1) : Int) true
        try go_wp2_with (first | ((with_reducible refine gate_store (t := 4) (p := 65) rfl ?_); refine store_event (t := 4) (p := 65) (v := ?vo_w50) (w1 := (w47.setCell ⟨go10, (((rd_T36 t112 x32_2).f1) : Int).toNat, none⟩ (.bool true))) ?hg ?ho ?hn ?hr ?_; (case ho => rfl); (case hg => rfl); (case hn => rfl); (case hr => first | (go_simp; done) | (go_simp; rfl)); intro w50 hw; have hg : w47.grownBy w50 (some go10) := (by rw [hw]; exact HP49.2); have hp_ : Kd.R Kd.bool 4 w50 w.heap.size (fun _ => True) (.slice (some ⟨go10, 0, none⟩) x9_2.length co10) y121 := (by rw [hw, Ny121.out]; exact HP49.1); clear HP49; have n0_ := Aside0.mk (Kd.R_over' (v := (.slice (some ⟨go10, 0, none⟩) x9_2.length co10)) (rl_ HO_8.out) (Kd.R_typed HO_9.out) (by decide) hg); have n1_ := Aside0.mk (hp_); have n2_ := Aside0.mk (Kd.R_over' (v := (.slice (some ⟨go10, 0, none⟩) x9_2.length co10)) (rl_ HO_30.out) (Kd.R_typed HO_9.out) (by decide) hg); have n3_ := Aside0.mk (blk_grown (g := gb116) (o := .cells #[.int .i64 ((rd_T36 t112 x32_2).f0), .int .i64 ((rd_T36 t112 x32_2).f1), .int .i64 ((rd_T36 t112 x32_2).f2), .int .i64 ((rd_T36 t112 x32_2).f3)] 36 (0, 0)) (bk_ BK116.out) hg (Kd.R_ne HO_9.out BK116.out (by decide))); have n4_ := Aside0.mk ((by rw [hw]; exact below_set (HB.out) GB10.out : Below w.heap.size w w50)); clear HO_8; clear HO_9; clear HO_30; clear BK116; clear HB; have HO_8 := n0_; have HO_9 := n1_; have HO_30 := n2_; have BK116 := n3_; have HB := n4_; clear n0_ n1_ n2_ n3_ n4_; clear hg hw hp_))
        (try simp only [← hl9_2])
        go_roundg kj24
        case measure => have := HK1.out; have := HK2.out; have := HJ24.out; omega
        case rel => exact ⟨(y120), (y121), (wrap64 (x32_2 + 1)), (by first | rfl | (simp; done) | (simp [*]; done)), H', ⟨by have := HK1.out; have := HK2.out; have := HJ24.out; omega⟩, ⟨by (try simp only [hl9_1]); (try simp only [hl9_2]); (with_reducible repeat (first | apply Kd.R_alloc | apply Kd.R_drewN | apply Kd.R_drew)); exact HO_8.out⟩, ⟨by (try simp only [hl9_1]); (try simp only [hl9_2]); (with_reducible repeat (first | apply Kd.R_alloc | apply Kd.R_drewN | apply Kd.R_drew)); exact HO_9.out⟩, ⟨by (try simp only [hl9_1]); (try simp only [hl9_2]); (with_reducible repeat (first | apply Kd.R_alloc | apply Kd.R_drewN | apply Kd.R_drew)); exact Kd.R_mono HO_30.out (fun _ hk => trivial)⟩, ⟨by repeat (first | (with_reducible first | exact HB.out | apply below_alloc | apply pw_below_drewN | apply below_drew1 | refine below_set ?_ GE116.out) | exact HB.out)⟩⟩
       replace c36 := Bool.eq_false_iff.mpr c36
       subst c36
       have H1 : (if 0 ≤ ((rd_T36 t112 x32_2).f1) then (if ((rd_T36 t112 x32_2).f1) < (x9_2.length : Int) then (if rdOf false x9_2 ((rd_T36 t112 x32_2).f1) = true then (if 0 ≤ ((rd_T36 t112 x32_2).f0) then (if ((rd_T36 t112 x32_2).f0) < (x9_2.length : Int) then (if rdOf false x9_2 ((rd_T36 t112 x32_2).f0) = true then (impl_TreeHeights.l1 kj24 l1 l2 x8_2 x9_2 (l2.length : Int) x26_1 t112 (t112.length : Int) (wrap64 (x32_2 + 1))) else (if ((rd_T36 t112 x32_2).f1) < (x8_2.length : Int) then (if ((rd_T36 t112 x32_2).f0) < (x8_2.length : Int) then (impl_TreeHeights.l1 kj24 l1 l2 (x8_2.set (((rd_T36 t112 x32_2).f0) : Int).toNat (wrap64 ((rd x8_2 ((rd_T36 t112 x32_2).f1)) - ((rd_T36 t112 x32_2).f2)))) (x9_2.set (((rd_T36 t112 x32_2).f0) : Int).toNat true) (l2.length : Int) x26_1 t112 (t112.length : Int) (wrap64 (x32_2 + 1))) else (none)) else (none))) else (none)) else (none)) else (impl_TreeHeights.l1 kj24 l1 l2 x8_2 x9_2 (l2.length : Int) x26_1 t112 (t112.length : Int) (wrap64 (x32_2 + 1)))) else (none)) else (none)) = some (r1, r2) := by rw [if_neg (show ¬ (false = true) by decide)] at H; exact H
       clear H
       have H := H1
       clear H1
       by_cases c51 : 0 ≤ ((rd_T36 t112 x32_2).f1)
       rotate_left
       ·rw [if_neg c51] at H
        exact absurd H (by simp)
       rw [if_pos c51] at H
       have c51b0 : decide (0 ≤ ((rd_T36 t112 x32_2).f1)) = true := decide_eq_true c51
       clear c51
       by_cases c52 : ((rd_T36 t112 x32_2).f1) < (x9_2.length : Int)
       rotate_left
       ·rw [if_neg c52] at H
        exact absurd H (by simp)
       rw [if_pos c52] at H
       have c52b0 : decide (((rd_T36 t112 x32_2).f1) < (x9_2.length : Int)) = true := decide_eq_true c52
       clear c52
       obtain ⟨bq53, hbq53⟩ : ∃ b_ : Bool, b_ = (rdOf false x9_2 ((rd_T36 t112 x32_2).f1)) := ⟨_, rfl⟩
       replace H : (if bq53 = true then (if 0 ≤ ((rd_T36 t112 x32_2).f0) then (if ((rd_T36 t112 x32_2).f0) < (x9_2.length : Int) then (if rdOf false x9_2 ((rd_T36 t112 x32_2).f0) = true then (impl_TreeHeights.l1 kj24 l1 l2 x8_2 x9_2 (l2.length : Int) x26_1 t112 (t112.length : Int) (wrap64 (x32_2 + 1))) else (if ((rd_T36 t112 x32_2).f1) < (x8_2.length : Int) then (if ((rd_T36 t112 x32_2).f0) < (x8_2.length : Int) then (impl_TreeHeights.l1 kj24 l1 l2 (x8_2.set (((rd_T36 t112 x32_2).f0) : Int).toNat (wrap64 ((rd x8_2 ((rd_T36 t112 x32_2).f1)) - ((rd_T36 t112 x32_2).f2)))) (x9_2.set (((rd_T36 t112 x32_2).f0) : Int).toNat true) (l2.length : Int) x26_1 t112 (t112.length : Int) (wrap64 (x32_2 + 1))) else (none)) else (none))) else (none)) else (none)) else (impl_TreeHeights.l1 kj24 l1 l2 x8_2 x9_2 (l2.length : Int) x26_1 t112 (t112.length : Int) (wrap64 (x32_2 + 1)))) = some (r1, r2) := by rw [← hbq53] at H; exact H
       have Nbq53 := Aside0.mk hbq53
       clear hbq53
       by_cases c54 : bq53 = true
       rotate_left
       ·replace c54 := Bool.eq_false_iff.mpr c54
        subst c54
        have H1 : (impl_TreeHeights.l1 kj24 l1 l2 x8_2 x9_2 (l2.length : Int) x26_1 t112 (t112.length : Int) (wrap64 (x32_2 + 1))) = some (r1, r2) := by rw [if_neg (show ¬ (false = true) by decide)] at H; exact H
        clear H
        have H := H1
        clear H1
        have H' := Aside0.mk H
        clear H
        have hcz72_0 : wc.cell? ⟨gb116, 0, none⟩ = some (.int .i64 ((rd_T36 t112 x32_2).f0)) := (blk_cell BK116.out 0).trans rfl
        have hcz72_1 : wc.cell? ⟨gb116, 1, none⟩ = some (.int .i64 ((rd_T36 t112 x32_2).f1)) := (blk_cell BK116.out 1).trans rfl
        have hcz72_2 : wc.cell? ⟨gb116, 2, none⟩ = some (.int .i64 ((rd_T36 t112 x32_2).f2)) := (blk_cell BK116.out 2).trans rfl
        have hcz72_3 : wc.cell? ⟨gb116, 3, none⟩ = some (.int .i64 ((rd_T36 t112 x32_2).f3)) := (blk_cell BK116.out 3).trans rfl
        have hfz72_0 := blk_frozen BK116.out 0
        have hfz72_1 := blk_frozen BK116.out 1
        have hfz72_2 := blk_frozen BK116.out 2
        have hfz72_3 := blk_frozen BK116.out 3
        have p122 : 0 ≤ (((rd_T36 t112 x32_2).f1) : Int) := od_
        have q122 : ((rd_T36 t112 x32_2).f1) < (x9_2.length : Int) := od_
        obtain ⟨ad122, e122, hx122_0⟩ := Kd.at_bool (Kd.R_reads' HO_9.out).2.2 ((rd_T36 t112 x32_2).f1) p122 q122
        (try rw [← Nbq53.out] at hx122_0)
        obtain rfl : (⟨go10, 0, none⟩ : Addr) = ad122 := (by injection e122)
        (first | simp only [add_plain] at hx122_0 | simp only [add_at] at hx122_0 | simp only [Addr.add, Nat.zero_add] at hx122_0 | skip)
        replace p122 := eq_true p122
        replace q122 := eq_true q122
        go_wp2
        (try simp only [← hl9_2])
        go_roundg kj24
        case measure => have := HK1.out; have := HK2.out; have := HJ24.out; omega
        case rel => exact ⟨(x8_2), (x9_2), (wrap64 (x32_2 + 1)), (by first | rfl | (simp; done) | (simp [*]; done)), H', ⟨by have := HK1.out; have := HK2.out; have := HJ24.out; omega⟩, ⟨by (try simp only [hl9_1]); (try simp only [hl9_2]); (with_reducible repeat (first | apply Kd.R_alloc | apply Kd.R_drewN | apply Kd.R_drew)); exact HO_8.out⟩, ⟨by (try simp only [hl9_1]); (try simp only [hl9_2]); (with_reducible repeat (first | apply Kd.R_alloc | apply Kd.R_drewN | apply Kd.R_drew)); exact HO_9.out⟩, ⟨by (try simp only [hl9_1]); (try simp only [hl9_2]); (with_reducible repeat (first | apply Kd.R_alloc | apply Kd.R_drewN | apply Kd.R_drew)); exact Kd.R_mono HO_30.out (fun _ hk => trivial)⟩, ⟨by repeat (first | (with_reducible first | exact HB.out | apply below_alloc | apply pw_below_drewN | apply below_drew1 | refine below_set ?_ GE116.out) | exact HB.out)⟩⟩
       subst c54
       have H1 : (if 0 ≤ ((rd_T36 t112 x32_2).f0) then (if ((rd_T36 t112 x32_2).f0) < (x9_2.length : Int) then (if rdOf false x9_2 ((rd_T36 t112 x32_2).f0) = true then (impl_TreeHeights.l1 kj24 l1 l2 x8_2 x9_2 (l2.length : Int) x26_1 t112 (t112.length : Int) (wrap64 (x32_2 + 1))) else (if ((rd_T36 t112 x32_2).f1) < (x8_2.length : Int) then (if ((rd_T36 t112 x32_2).f0) < (x8_2.length : Int) then (impl_TreeHeights.l1 kj24 l1 l2 (x8_2.set (((rd_T36 t112 x32_2).f0) : Int).toNat (wrap64 ((rd x8_2 ((rd_T36 t112 x32_2).f1)) - ((rd_T36 t112 x32_2).f2)))) (x9_2.set (((rd_T36 t112 x32_2).f0) : Int).toNat true) (l2.length : Int) x26_1 t112 (t112.length : Int) (wrap64 (x32_2 + 1))) else (none)) else (none))) else (none)) else (none)) = some (r1, r2) := by rw [if_pos rfl] at H; exact H
       clear H
       have H := H1
       clear H1
       by_cases c55 : 0 ≤ ((rd_T36 t112 x32_2).f0)
       rotate_left
       ·rw [if_neg c55] at H
        exact absurd H (by simp)
       rw [if_pos c55] at H
       have c55b0 : decide (0 ≤ ((rd_T36 t112 x32_2).f0)) = true := decide_eq_true c55
       clear c55
       by_cases c56 : ((rd_T36 t112 x32_2).f0) < (x9_2.length : Int)
       rotate_left
       ·rw [if_neg c56] at H
        exact absurd H (by simp)
       rw [if_pos c56] at H
       have c56b0 : decide (((rd_T36 t112 x32_2).f0) < (x9_2.length : Int)) = true := decide_eq_true c56
       clear c56
       obtain ⟨bq57, hbq57⟩ : ∃ b_ : Bool, b_ = (rdOf false x9_2 ((rd_T36 t112 x32_2).f0)) := ⟨_, rfl⟩
       replace H : (if bq57 = true then (impl_TreeHeights.l1 kj24 l1 l2 x8_2 x9_2 (l2.length : Int) x26_1 t112 (t112.length : Int) (wrap64 (x32_2 + 1))) else (if ((rd_T36 t112 x32_2).f1) < (x8_2.length : Int) then (if ((rd_T36 t112 x32_2).f0) < (x8_2.length : Int) then (impl_TreeHeights.l1 kj24 l1 l2 (x8_2.set (((rd_T36 t112 x32_2).f0) : Int).toNat (wrap64 ((rd x8_2 ((rd_T36 t112 x32_2).f1)) - ((rd_T36 t112 x32_2).f2)))) (x9_2.set (((rd_T36 t112 x32_2).f0) : Int).toNat true) (l2.length : Int) x26_1 t112 (t112.length : Int) (wrap64 (x32_2 + 1))) else (none)) else (none))) = some (r1, r2) := by rw [← hbq57] at H; exact H
       have Nbq57 := Aside0.mk hbq57
       clear hbq57
       by_cases c58 : bq57 = true
       ·subst c58
        have H1 : (impl_TreeHeights.l1 kj24 l1 l2 x8_2 x9_2 (l2.length : Int) x26_1 t112 (t112.length : Int) (wrap64 (x32_2 + 1))) = some (r1, r2) := by rw [if_pos rfl] at H; exact H
        clear H
        have H := H1
        clear H1
        have H' := Aside0.mk H
        clear H
        have hcz59_0 : wc.cell? ⟨gb116, 0, none⟩ = some (.int .i64 ((rd_T36 t112 x32_2).f0)) := (blk_cell BK116.out 0).trans rfl
        have hcz59_1 : wc.cell? ⟨gb116, 1, none⟩ = some (.int .i64 ((rd_T36 t112 x32_2).f1)) := (blk_cell BK116.out 1).trans rfl
        have hcz59_2 : wc.cell? ⟨gb116, 2, none⟩ = some (.int .i64 ((rd_T36 t112 x32_2).f2)) := (blk_cell BK116.out 2).trans rfl
        have hcz59_3 : wc.cell? ⟨gb116, 3, none⟩ = some (.int .i64 ((rd_T36 t112 x32_2).f3)) := (blk_cell BK116.out 3).trans rfl
        have hfz59_0 := blk_frozen BK116.out 0
        have hfz59_1 := blk_frozen BK116.out 1
        have hfz59_2 := blk_frozen BK116.out 2
        have hfz59_3 := blk_frozen BK116.out 3
        have p122 : 0 ≤ (((rd_T36 t112 x32_2).f1) : Int) := od_
        have q122 : ((rd_T36 t112 x32_2).f1) < (x9_2.length : Int) := od_
        obtain ⟨ad122, e122, hx122_0⟩ := Kd.at_bool (Kd.R_reads' HO_9.out).2.2 ((rd_T36 t112 x32_2).f1) p122 q122
        (try rw [← Nbq53.out] at hx122_0)
        (try rw [← Nbq57.out] at hx122_0)
        obtain rfl : (⟨go10, 0, none⟩ : Addr) = ad122 := (by injection e122)
        (first | simp only [add_plain] at hx122_0 | simp only [add_at] at hx122_0 | simp only [Addr.add, Nat.zero_add] at hx122_0 | skip)
        replace p122 := eq_true p122
        replace q122 := eq_true q122
        have p123 : 0 ≤ (((rd_T36 t112 x32_2).f0) : Int) := od_
        have q123 : ((rd_T36 t112 x32_2).f0) < (x9_2.length : Int) := od_
        obtain ⟨ad123, e123, hx123_0⟩ := Kd.at_bool (Kd.R_reads' HO_9.out).2.2 ((rd_T36 t112 x32_2).f0) p123 q123
        (try rw [← Nbq53.out] at hx123_0)
        (try rw [← Nbq57.out] at hx123_0)
        obtain rfl : (⟨go10, 0, none⟩ : Addr) = ad123 := (by injection e123)
        (first | simp only [add_plain] at hx123_0 | simp only [add_at] at hx123_0 | simp only [Addr.add, Nat.zero_add] at hx123_0 | skip)
        replace p123 := eq_true p123
        replace q123 := eq_true q123
        go_wp2
        (try simp only [← hl9_2])
        go_roundg kj24
        case measure => have := HK1.out; have := HK2.out; have := HJ24.out; omega
        case rel => exact ⟨(x8_2), (x9_2), (wrap64 (x32_2 + 1)), (by first | rfl | (simp; done) | (simp [*]; done)), H', ⟨by have := HK1.out; have := HK2.out; have := HJ24.out; omega⟩, ⟨by (try simp only [hl9_1]); (try simp only [hl9_2]); (with_reducible repeat (first | apply Kd.R_alloc | apply Kd.R_drewN | apply Kd.R_drew)); exact HO_8.out⟩, ⟨by (try simp only [hl9_1]); (try simp only [hl9_2]); (with_reducible repeat (first | apply Kd.R_alloc | apply Kd.R_drewN | apply Kd.R_drew)); exact HO_9.out⟩, ⟨by (try simp only [hl9_1]); (try simp only [hl9_2]); (with_reducible repeat (first | apply Kd.R_alloc | apply Kd.R_drewN | apply Kd.R_drew)); exact Kd.R_mono HO_30.out (fun _ hk => trivial)⟩, ⟨by repeat (first | (with_reducible first | exact HB.out | apply below_alloc | apply pw_below_drewN | apply below_drew1 | refine below_set ?_ GE116.out) | exact HB.out)⟩⟩
       replace c58 := Bool.eq_false_iff.mpr c58
       subst c58
       have H1 : (if ((rd_T36 t112 x32_2).f1) < (x8_2.length : Int) then (if ((rd_T36 t112 x32_2).f0) < (x8_2.length : Int) then (impl_TreeHeights.l1 kj24 l1 l2 (x8_2.set (((rd_T36 t112 x32_2).f0) : Int).toNat (wrap64 ((rd x8_2 ((rd_T36 t112 x32_2).f1)) - ((rd_T36 t112 x32_2).f2)))) (x9_2.set (((rd_T36 t112 x32_2).f0) : Int).toNat true) (l2.length : Int) x26_1 t112 (t112.length : Int) (wrap64 (x32_2 + 1))) else (none)) else (none)) = some (r1, r2) := by rw [if_neg (show ¬ (false = true) by decide)] at H; exact H
       clear H
       have H := H1
       clear H1
       by_cases c60 : ((rd_T36 t112 x32_2).f1) < (x8_2.length : Int)
       rotate_left
       ·rw [if_neg c60] at H
        exact absurd H (by simp)
       rw [if_pos c60] at H
       have c60b0 : decide (((rd_T36 t112 x32_2).f1) < (x8_2.length : Int)) = true := decide_eq_true c60
       clear c60
       by_cases c61 : ((rd_T36 t112 x32_2).f0) < (x8_2.length : Int)
       rotate_left
       ·rw [if_neg c61] at H
        exact absurd H (by simp)
       rw [if_pos c61] at H
       have c61b0 : decide (((rd_T36 t112 x32_2).f0) < (x8_2.length : Int)) = true := decide_eq_true c61
       clear c61
       obtain ⟨y125, hy125⟩ : ∃ y_ : List Int, y_ = (x8_2.set (((rd_T36 t112 x32_2).f0) : Int).toNat (wrap64 ((rd x8_2 ((rd_T36 t112 x32_2).f1)) - ((rd_T36 t112 x32_2).f2)))) := ⟨_, rfl⟩
       replace H : (impl_TreeHeights.l1 kj24 l1 l2 y125 (x9_2.set (((rd_T36 t112 x32_2).f0) : Int).toNat true) (l2.length : Int) x26_1 t112 (t112.length : Int) (wrap64 (x32_2 + 1))) = some (r1, r2) := by first | (rw [hy125]; with_reducible exact H) | (have H2_ := (Option.bind_some _ _).symm.trans H; rw [hy125]; with_reducible exact H2_) | (have H2_ := (Option.bind_some _ _).symm.trans H; with_reducible exact H2_) | with_reducible exact H | (rw [hy125]; exact H) | exact H
       have Ny125 := Aside0.mk hy125
       clear hy125
       obtain ⟨y126, hy126⟩ : ∃ y_ : List Bool, y_ = (x9_2.set (((rd_T36 t112 x32_2).f0) : Int).toNat true) := ⟨_, rfl⟩
       replace H : (impl_TreeHeights.l1 kj24 l1 l2 y125 y126 (l2.length : Int) x26_1 t112 (t112.length : Int) (wrap64 (x32_2 + 1))) = some (r1, r2) := by first | (rw [hy126]; with_reducible exact H) | (have H2_ := (Option.bind_some _ _).symm.trans H; rw [hy126]; with_reducible exact H2_) | (have H2_ := (Option.bind_some _ _).symm.trans H; with_reducible exact H2_) | with_reducible exact H | (rw [hy126]; exact H) | exact H
       have Ny126 := Aside0.mk hy126
       clear hy126
       have H' := Aside0.mk H
       clear H
       have hcz64_0 : wc.cell? ⟨gb116, 0, none⟩ = some (.int .i64 ((rd_T36 t112 x32_2).f0)) := (blk_cell BK116.out 0).trans rfl
       have hcz64_1 : wc.cell? ⟨gb116, 1, none⟩ = some (.int .i64 ((rd_T36 t112 x32_2).f1)) := (blk_cell BK116.out 1).trans rfl
       have hcz64_2 : wc.cell? ⟨gb116, 2, none⟩ = some (.int .i64 ((rd_T36 t112 x32_2).f2)) := (blk_cell BK116.out 2).trans rfl
       have hcz64_3 : wc.cell? ⟨gb116, 3, none⟩ = some (.int .i64 ((rd_T36 t112 x32_2).f3)) := (blk_cell BK116.out 3).trans rfl
       have hfz64_0 := blk_frozen BK116.out 0
       have hfz64_1 := blk_frozen BK116.out 1
       have hfz64_2 := blk_frozen BK116.out 2
       have hfz64_3 := blk_frozen BK116.out 3
       have p122 : 0 ≤ (((rd_T36 t112 x32_2).f1) : Int) := od_
       have q122 : ((rd_T36 t112 x32_2).f1) < (x9_2.length : Int) := od_
       obtain ⟨ad122, e122, hx122_0⟩ := Kd.at_bool (Kd.R_reads' HO_9.out).2.2 ((rd_T36 t112 x32_2).f1) p122 q122
       (try rw [← Nbq53.out] at hx122_0)
       (try rw [← Nbq57.out] at hx122_0)
       obtain rfl : (⟨go10, 0, none⟩ : Addr) = ad122 := (by injection e122)
       (first | simp only [add_plain] at hx122_0 | simp only [add_at] at hx122_0 | simp only [Addr.add, Nat.zero_add] at hx122_0 | skip)
       replace p122 := eq_true p122
       replace q122 := eq_true q122
       have p123 : 0 ≤ (((rd_T36 t112 x32_2).f0) : Int) := od_
       have q123 : ((rd_T36 t112 x32_2).f0) < (x9_2.length : Int) := od_
       obtain ⟨ad123, e123, hx123_0⟩ := Kd.at_bool (Kd.R_reads' HO_9.out).2.2 ((rd_T36 t112 x32_2).f0) p123 q123
       (try rw [← Nbq53.out] at hx123_0)
       (try rw [← Nbq57.out] at hx123_0)
       obtain rfl : (⟨go10, 0, none⟩ : Addr) = ad123 := (by injection e123)
       (first | simp only [add_plain] at hx123_0 | simp only [add_at] at hx123_0 | simp only [Addr.add, Nat.zero_add] at hx123_0 | skip)
       replace p123 := eq_true p123
       replace q123 := eq_true q123
       try go_wp2
       have n0_ := Aside0.mk (Kd.R_drew HO_8.out)
       have n1_ := Aside0.mk (Kd.R_drew HO_9.out)
       have n2_ := Aside0.mk (Kd.R_drew HO_30.out)
       have n3_ := Aside0.mk (blk_drew BK116.out)
       have n4_ := Aside0.mk (below_drew1 HB.out)
       clear HO_8
       clear HO_9
       clear HO_30
       clear BK116
       clear HB
       have HO_8 := n0_
       have HO_9 := n1_
       have HO_30 := n2_
       have BK116 := n3_
       have HB := n4_
       clear n0_ n1_ n2_ n3_ n4_
       obtain ⟨Ao66, co66, eo66⟩ := Kd.R_slice HO_8.out
       (first | subst eo66 | (injection eo66 with f1_ f2_ f3_; have f4_ := f1_.symm; have f5_ := f3_.symm; clear f1_ f2_ f3_; subst f4_; subst f5_))
       have p124 : 0 ≤ (((rd_T36 t112 x32_2).f1) : Int) := od_
       have q124 : ((rd_T36 t112 x32_2).f1) < (x8_2.length : Int) := od_
       obtain ⟨ad124, e124, hx124_0⟩ := Kd.at_int (Kd.R_reads' HO_8.out).2.2 ((rd_T36 t112 x32_2).f1) p124 q124
       cases e124
       replace p124 := eq_true p124
       replace q124 := eq_true q124
       have p62 : 0 ≤ (((rd_T36 t112 x32_2).f0) : Int) := od_
       have q62 : (((rd_T36 t112 x32_2).f0) : Int) < ((x8_2.length : Int) : Int) := od_
       obtain ⟨go62, co62, eo62, gb62, gl62, cl62, HG62⟩ := Kd.R_form HO_8.out (by omega)
       (first | cases eo62 | (injection eo62 with ea_ en_ ec_; (first | subst ea_ | (injection ea_ with ea_; subst ea_)); subst ec_; clear en_))
       have GB62 := Aside0.mk gb62
       have GG62 := Aside0.mk HG62
       clear gb62 gl62 HG62
       (first | simp only [add_plain] at hx124_0 | skip)
       obtain ⟨hx62_0, hf62_0⟩ := Kd.R_celln 0 HO_8.out (((rd_T36 t112 x32_2).f0) : Int) p62 q62
       replace p62 := eq_true p62
       replace q62 := eq_true q62
       have HP67 := Kd.R_putn HO_8.out (((rd_T36 t112 x32_2).f0) : Int) (wrap64 ((rd x8_2 ((rd_T36 t112 x32_2).f1)) - ((rd_T36 t112 x32_2).f2)))
       rw [← Ny125.out] at HP67
       have HQ67 := Aside0.mk HP67
       clear HP67
       refine start_ (n := 13) (S := fun w' => w'.cell? ⟨gb116, 0, none⟩ = some (.int .i64 ((rd_T36 t112 x32_2).f0)) ∧ w'.cell? ⟨gb116, 1, none⟩ = some (.int .i64 ((rd_T36 t112 x32_2).f1)) ∧ w'.cell? ⟨gb116, 2, none⟩ = some (.int .i64 ((rd_T36 t112 x32_2).f2)) ∧ w'.cell? ⟨gb116, 3, none⟩ = some (.int .i64 ((rd_T36 t112 x32_2).f3)) ∧ w'.cell? (⟨go62, (((rd_T36 t112 x32_2).f1)).toNat, none⟩ : Addr) = some (.int .i64 (rd x8_2 ((rd_T36 t112 x32_2).f1)))) (ds := [12]) #[false, false, false, false, false, false, false, false, false, false, false, false, false] (by kernel_rfl) rfl rfl ⟨(blk_cell BK116.out 0).trans rfl, (blk_cell BK116.out 1).trans rfl, (blk_cell BK116.out 2).trans rfl, (blk_cell BK116.out 3).trans rfl, hx124_0⟩ (fun hHeld => ?_); refine with_tabW impl_TreeHeights.tab15 impl_TreeHeights.bits15 (fun HT_ HW_ => ?_)
       generalize wc.drew = w65 at HO_8 HO_9 HO_30 BK116 HB GG62 HQ67 hf62_0 hx124_0 hx62_0 hHeld ⊢
       refine pure_ (i := 0) (N := some 80) (v := ?_) (a' := ?_) #[true, false, false, false, false, false, false, false, false, false, false, false, false] rfl rfl (any_of HT_.out (by kernel_rfl)) (fun _ _ _ h => h) (Or.inl ⟨by rfl, ?_⟩) ?_ ?_
       rotate_left
       ·intro w'
        go_simp
        with_reducible rfl
       rotate_left
       ·simp only [Act.put, List.setIfInBounds_toArray, List.set_cons_zero, List.set_cons_succ, i64_w, i32_w]
        rfl
       refine pure_ (i := 1) (N := some 81) (v := ?_) (a' := ?_) #[true, true, false, false, false, false, false, false, false, false, false, false, false] rfl rfl (any_of HT_.out (by kernel_rfl)) (fun _ _ _ h => h) (Or.inl ⟨by rfl, ?_⟩) ?_ ?_
       rotate_left
       ·intro w'
        go_simp
        with_reducible rfl
       rotate_left
       ·simp only [Act.put, List.setIfInBounds_toArray, List.set_cons_zero, List.set_cons_succ, i64_w, i32_w]
        rfl
       refine pure_ (i := 3) (N := some 83) (v := ?_) (a' := ?_) #[true, true, false, true, false, false, false, false, false, false, false, false, false] rfl rfl (any_of HT_.out (by kernel_rfl)) (fun _ _ _ h => h) (Or.inl ⟨by rfl, ?_⟩) ?_ ?_
       rotate_left
       ·intro w'
        go_simp
        with_reducible rfl
       rotate_left
       ·simp only [Act.put, List.setIfInBounds_toArray, List.set_cons_zero, List.set_cons_succ, i64_w, i32_w]
        rfl
       refine pure_ (i := 4) (N := some 84) (v := ?_) (a' := ?_) #[true, true, false, true, true, false, false, false, false, false, false, false, false] rfl rfl (any_of HT_.out (by kernel_rfl)) (fun _ _ _ h => h) (Or.inl ⟨by rfl, ?_⟩) ?_ ?_
       rotate_left
       ·intro w'
        go_simp
        with_reducible rfl
       rotate_left
       ·simp only [Act.put, List.setIfInBounds_toArray, List.set_cons_zero, List.set_cons_succ, i64_w, i32_w]
        rfl
       refine pure_ (i := 8) (N := some 88) (v := ?_) (a' := ?_) #[true, true, false, true, true, false, false, false, true, false, false, false, false] rfl rfl (any_of HT_.out (by kernel_rfl)) (fun _ _ _ h => h) (Or.inl ⟨by rfl, ?_⟩) ?_ ?_
       rotate_left
       ·intro w'
        go_simp
        with_reducible rfl
       rotate_left
       ·simp only [Act.put, List.setIfInBounds_toArray, List.set_cons_zero, List.set_cons_succ, i64_w, i32_w]
        rfl
       refine take_ (i := 2) (N := some 82) (v := ?_) (a' := ?_) #[true, true, true, true, true, false, false, false, true, false, false, false, false] rfl rfl (take_ofW HT_.out HW_.out (by kernel_rfl)) (fun _ _ _ h => h) (Or.inl ⟨by rfl, ?_⟩) hHeld ?_ ?_
       rotate_left
       ·rintro w' ⟨s0, s1, s2, s3, s4⟩
        go_simp
        with_reducible rfl
       rotate_left
       ·simp only [Act.put, List.setIfInBounds_toArray, List.set_cons_zero, List.set_cons_succ, i64_w, i32_w]
        rfl
       refine take_ (i := 5) (N := some 85) (v := ?_) (a' := ?_) #[true, true, true, true, true, true, false, false, true, false, false, false, false] rfl rfl (take_ofW HT_.out HW_.out (by kernel_rfl)) (fun _ _ _ h => h) (Or.inl ⟨by rfl, ?_⟩) hHeld ?_ ?_
       rotate_left
       ·rintro w' ⟨s0, s1, s2, s3, s4⟩
        go_simp
        with_reducible rfl
       rotate_left
       ·simp only [Act.put, List.setIfInBounds_toArray, List.set_cons_zero, List.set_cons_succ, i64_w, i32_w]
        rfl
       refine pure_ (i := 6) (N := some 86) (v := ?_) (a' := ?_) #[true, true, true, true, true, true, true, false, true, false, false, false, false] rfl rfl (any_of HT_.out (by kernel_rfl)) (fun _ _ _ h => h) (Or.inl ⟨by rfl, ?_⟩) ?_ ?_
       rotate_left
       ·intro w'
        go_simp
        with_reducible rfl
       rotate_left
       ·simp only [Act.put, List.setIfInBounds_toArray, List.set_cons_zero, List.set_cons_succ, i64_w, i32_w]
        rfl
       refine take_ (i := 7) (N := some 87) (v := ?_) (a' := ?_) #[true, true, true, true, true, true, true, true, true, false, false, false, false] rfl rfl (take_ofW HT_.out HW_.out (by kernel_rfl)) (fun _ _ _ h => h) (Or.inl ⟨by rfl, ?_⟩) hHeld ?_ ?_
       rotate_left
       ·rintro w' ⟨s0, s1, s2, s3, s4⟩
        go_simp
        with_reducible rfl
       rotate_left
       ·simp only [Act.put, List.setIfInBounds_toArray, List.set_cons_zero, List.set_cons_succ, i64_w, i32_w]
        rfl
       refine take_ (i := 9) (N := some 89) (v := ?_) (a' := ?_) #[true, true, true, true, true, true, true, true, true, true, false, false, false] rfl rfl (take_ofW HT_.out HW_.out (by kernel_rfl)) (fun _ _ _ h => h) (Or.inl ⟨by rfl, ?_⟩) hHeld ?_ ?_
       rotate_left
       ·rintro w' ⟨s0, s1, s2, s3, s4⟩
        go_simp
        with_reducible rfl
       rotate_left
       ·simp only [Act.put, List.setIfInBounds_toArray, List.set_cons_zero, List.set_cons_succ, i64_w, i32_w]
        rfl
       refine pure_ (i := 10) (N := some 90) (v := ?_) (a' := ?_) #[true, true, true, true, true, true, true, true, true, true, true, false, false] rfl rfl (any_of HT_.out (by kernel_rfl)) (fun _ _ _ h => h) (Or.inl ⟨by rfl, ?_⟩) ?_ ?_
       rotate_left
       ·intro w'
        go_simp
        with_reducible rfl
       rotate_left
       ·simp only [Act.put, List.setIfInBounds_toArray, List.set_cons_zero, List.set_cons_succ, i64_w, i32_w]
        rfl
       refine pure_ (i := 11) (N := some 91) (v := ?_) (a' := ?_) #[true, true, true, true, true, true, true, true, true, true, true, true, false] rfl rfl (any_of HT_.out (by kernel_rfl)) (fun _ _ _ h => h) (Or.inl ⟨by rfl, ?_⟩) ?_ ?_
       rotate_left
       ·intro w'
        go_simp
        with_reducible rfl
       rotate_left
       ·simp only [Act.put, List.setIfInBounds_toArray, List.set_cons_zero, List.set_cons_succ, i64_w, i32_w]
        rfl
       refine last_ (i := 12) (N := none) #[true, true, true, true, true, true, true, true, true, true, true, true, true] rfl rfl (one_of HT_.out (by kernel_rfl)) (by decide) (fun K hK => ?_)
       refine skip_ (w1 := ?_) (by rfl) rfl ?_ ?_
       rotate_left
       ·go_simp
        rfl
       refine hK.out _ _ ?_
       clear hK K
       refine done_ (done_of HT_.out (by kernel_rfl)) ?_
       have n0_ : Aside0 (Kd.R (Kd.int .i64) 3 (w65.setCell ⟨go62, (((rd_T36 t112 x32_2).f0) : Int).toNat, none⟩ (.int .i64 (wrap64 ((rd x8_2 ((rd_T36 t112 x32_2).f1)) - ((rd_T36 t112 x32_2).f2))))) w.heap.size (fun _ => True) (.slice (some ⟨go62, 0, none⟩) x8_2.length co66) y125) := ⟨by (with_reducible repeat (first | apply Kd.R_alloc | apply Kd.R_drewN | apply Kd.R_drew)); exact HQ67.out⟩
       have n1_ : Aside0 (Kd.R Kd.bool 4 (w65.setCell ⟨go62, (((rd_T36 t112 x32_2).f0) : Int).toNat, none⟩ (.int .i64 (wrap64 ((rd x8_2 ((rd_T36 t112 x32_2).f1)) - ((rd_T36 t112 x32_2).f2))))) w.heap.size (fun _ => True) (.slice (some ⟨go10, 0, none⟩) x9_2.length co10) x9_2) := ⟨by (with_reducible repeat (first | apply Kd.R_alloc | apply Kd.R_drewN | apply Kd.R_drew)); exact Kd.R_mono (Kd.R_far (p := ⟨go62, (((rd_T36 t112 x32_2).f0) : Int).toNat, none⟩) (Kd.R_types HO_9.out GG62.out (by decide)) (fun _ hk => hk.2) (.int .i64 (wrap64 ((rd x8_2 ((rd_T36 t112 x32_2).f1)) - ((rd_T36 t112 x32_2).f2))))) (fun _ hk => trivial)⟩
       have n2_ : Aside0 (Kd.R k36 36 (w65.setCell ⟨go62, (((rd_T36 t112 x32_2).f0) : Int).toNat, none⟩ (.int .i64 (wrap64 ((rd x8_2 ((rd_T36 t112 x32_2).f1)) - ((rd_T36 t112 x32_2).f2))))) w.heap.size (fun k_ => k_ ≠ gb116) (.slice (some ad115) t112.length co21) t112) := ⟨by (with_reducible repeat (first | apply Kd.R_alloc | apply Kd.R_drewN | apply Kd.R_drew)); exact Kd.R_mono (Kd.R_far (p := ⟨go62, (((rd_T36 t112 x32_2).f0) : Int).toNat, none⟩) (Kd.R_types HO_30.out GG62.out (by decide)) (fun _ hk => hk.2) (.int .i64 (wrap64 ((rd x8_2 ((rd_T36 t112 x32_2).f1)) - ((rd_T36 t112 x32_2).f2))))) (fun _ hk => hk.1)⟩
       have n3_ : Aside0 ((w65.setCell ⟨go62, (((rd_T36 t112 x32_2).f0) : Int).toNat, none⟩ (.int .i64 (wrap64 ((rd x8_2 ((rd_T36 t112 x32_2).f1)) - ((rd_T36 t112 x32_2).f2))))).heap[gb116]? = some (.cells #[.int .i64 ((rd_T36 t112 x32_2).f0), .int .i64 ((rd_T36 t112 x32_2).f1), .int .i64 ((rd_T36 t112 x32_2).f2), .int .i64 ((rd_T36 t112 x32_2).f3)] 36 (0, 0))) := ⟨by (with_reducible repeat (first | refine blk_drewN ?_ _ | refine blk_drew ?_ | refine blk_alloc ?_ _)); refine blk_far ?_ (by have h_ := Kd.R_ne HO_8.out BK116.out (by decide); intro e_; exact h_ (by rw [e_]; rfl)) _; (with_reducible repeat (first | refine blk_drewN ?_ _ | refine blk_drew ?_ | refine blk_alloc ?_ _)); exact BK116.out⟩
       have n4_ : Aside0 (Below w.heap.size w (w65.setCell ⟨go62, (((rd_T36 t112 x32_2).f0) : Int).toNat, none⟩ (.int .i64 (wrap64 ((rd x8_2 ((rd_T36 t112 x32_2).f1)) - ((rd_T36 t112 x32_2).f2)))))) := ⟨by repeat (first | (with_reducible first | exact HB.out | apply below_alloc | apply pw_below_drewN | apply below_drew1 | refine below_set ?_ GB62.out | refine below_set ?_ GE116.out) | exact HB.out)⟩
       (try clear HO_8)
       (try clear HO_9)
       (try clear HO_30)
       (try clear BK116)
       (try clear HB)
       generalize (w65.setCell ⟨go62, (((rd_T36 t112 x32_2).f0) : Int).toNat, none⟩ (.int .i64 (wrap64 ((rd x8_2 ((rd_T36 t112 x32_2).f1)) - ((rd_T36 t112 x32_2).f2))))) = w68 at n0_ n1_ n2_ n3_ n4_ ⊢
       have HO_8 := n0_
       have HO_9 := n1_
       have HO_30 := n2_
       have BK116 := n3_
       have HB := n4_
       clear n0_ n1_ n2_ n3_ n4_
       have hcz69_0 : w68.cell? ⟨gb116, 0, none⟩ = some (.int .i64 ((rd_T36 t112 x32_2).f0)) := (blk_cell BK116.out 0).trans rfl
       have hcz69_1 : w68.cell? ⟨gb116, 1, none⟩ = some (.int .i64 ((rd_T36 t112 x32_2).f1)) := (blk_cell BK116.out 1).trans rfl
       have hcz69_2 : w68.cell? ⟨gb116, 2, none⟩ = some (.int .i64 ((rd_T36 t112 x32_2).f2)) := (blk_cell BK116.out 2).trans rfl
       have hcz69_3 : w68.cell? ⟨gb116, 3, none⟩ = some (.int .i64 ((rd_T36 t112 x32_2).f3)) := (blk_cell BK116.out 3).trans rfl
       have hfz69_0 := blk_frozen BK116.out 0
       have hfz69_1 := blk_frozen BK116.out 1
       have hfz69_2 := blk_frozen BK116.out 2
       have hfz69_3 := blk_frozen BK116.out 3
       have p63 : 0 ≤ (((rd_T36 t112 x32_2).f0) : Int) := od_
       have q63 : (((rd_T36 t112 x32_2).f0) : Int) < ((x9_2.length : Int) : Int) := od_
       obtain ⟨hx63_0, hf63_0⟩ := Kd.R_celln false HO_9.out (((rd_T36 t112 x32_2).f0) : Int) p63 q63
       replace p63 := eq_true p63
       replace q63 := eq_true q63
       obtain ⟨hy70_, hz70_⟩ := Kd.R_celln false HO_9.out (((rd_T36 t112 x32_2).f0) : Int) (od_) (od_)
       have HP70 := Kd.R_putg HO_9.out (((rd_T36 t112 x32_2).f0) : Int) true
       try go_wp2_with (first | ((with_reducible refine gate_store (t := 4) (p := 95) rfl ?_); refine store_event (t := 4) (p := 95) (v := ?vo_w71) (w1 := (w68.setCell ⟨go10, (((rd_T36 t112 x32_2).f0) : Int).toNat, none⟩ (.bool true))) ?hg ?ho ?hn ?hr ?_; (case ho => rfl); (case hg => rfl); (case hn => rfl); (case hr => first | (go_simp; done) | (go_simp; rfl)); intro w71 hw; have hg : w68.grownBy w71 (some go10) := (by rw [hw]; exact HP70.2); have hp_ : Kd.R Kd.bool 4 w71 w.heap.size (fun _ => True) (.slice (some ⟨go10, 0, none⟩) x9_2.length co10) y126 := (by rw [hw, Ny126.out]; exact HP70.1); clear HP70; have n0_ := Aside0.mk (Kd.R_over' (v := (.slice (some ⟨go10, 0, none⟩) x9_2.length co10)) (rl_ HO_8.out) (Kd.R_typed HO_9.out) (by decide) hg); have n1_ := Aside0.mk (hp_); have n2_ := Aside0.mk (Kd.R_over' (v := (.slice (some ⟨go10, 0, none⟩) x9_2.length co10)) (rl_ HO_30.out) (Kd.R_typed HO_9.out) (by decide) hg); have n3_ := Aside0.mk (blk_grown (g := gb116) (o := .cells #[.int .i64 ((rd_T36 t112 x32_2).f0), .int .i64 ((rd_T36 t112 x32_2).f1), .int .i64 ((rd_T36 t112 x32_2).f2), .int .i64 ((rd_T36 t112 x32_2).f3)] 36 (0, 0)) (bk_ BK116.out) hg (Kd.R_ne HO_9.out BK116.out (by decide))); have n4_ := Aside0.mk ((by rw [hw]; exact below_set (HB.out) GB10.out : Below w.heap.size w w71)); clear HO_8; clear HO_9; clear HO_30; clear BK116; clear HB; have HO_8 := n0_; have HO_9 := n1_; have HO_30 := n2_; have BK116 := n3_; have HB := n4_; clear n0_ n1_ n2_ n3_ n4_; clear hg hw hp_))
       (try simp only [← hl9_2])
       go_roundg kj24
       case measure => have := HK1.out; have := HK2.out; have := HJ24.out; omega
       case rel => exact ⟨(y125), (y126), (wrap64 (x32_2 + 1)), (by first | rfl | (simp; done) | (simp [*]; done)), H', ⟨by have := HK1.out; have := HK2.out; have := HJ24.out; omega⟩, ⟨by (try simp only [hl9_1]); (try simp only [hl9_2]); (with_reducible repeat (first | apply Kd.R_alloc | apply Kd.R_drewN | apply Kd.R_drew)); exact HO_8.out⟩, ⟨by (try simp only [hl9_1]); (try simp only [hl9_2]); (with_reducible repeat (first | apply Kd.R_alloc | apply Kd.R_drewN | apply Kd.R_drew)); exact HO_9.out⟩, ⟨by (try simp only [hl9_1]); (try simp only [hl9_2]); (with_reducible repeat (first | apply Kd.R_alloc | apply Kd.R_drewN | apply Kd.R_drew)); exact Kd.R_mono HO_30.out (fun _ hk => trivial)⟩, ⟨by repeat (first | (with_reducible first | exact HB.out | apply below_alloc | apply pw_below_drewN | apply below_drew1 | refine below_set ?_ GE116.out) | exact HB.out)⟩⟩
end Go.Proofs.Ytbnndmkkmceenaa.P3
