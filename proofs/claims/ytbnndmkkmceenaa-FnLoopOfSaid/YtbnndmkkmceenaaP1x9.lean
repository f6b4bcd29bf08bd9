-- squeezed
-- dedented
-- Written by a program (wip/tools/mkprint.py) over the kit's print.
import Derived.Test.YtbnndmkkmceenaaP1x0
import Derived.Test.YtbnndmkkmceenaaP1x1
import Derived.Test.YtbnndmkkmceenaaP0x58
namespace Go.Proofs.Ytbnndmkkmceenaa.P1
open Go.RowKit Go.Proofs.Ytbnndmkkmceenaa.Hand Go.Proofs.Ytbnndmkkmceenaa.P0 Go.Proofs.YtbnndmkkmceenaaW.PrintWords Go.Proofs.YtbnndmkkmceenaaW.PrintLast
set_option linter.unusedVariables false
set_option linter.unusedSimpArgs false

/-! ### impl_TreeFirst: function 39 -/
def impl_TreeFirst.l0 : Nat → Int → List (S36) → List Int → List (S36) → Int → Int → Option (List Int × Bool)
 | 0, _, _, _, _, _, _ => none
 | k + 1, x0, x1, x6, x16, x17, x18 => if x18 < x17 then (if 0 ≤ x18 then (if x18 < (x16.length : Int) then ((impl_pick.f k x1 x6).bind fun t214 => ((impl_leastLinked.f x0 t214).bind fun t217 => (if 0 ≤ ((rd_T36 x16 x18).f0) then (if ((rd_T36 x16 x18).f0) < (t217.length : Int) then (if 0 ≤ ((rd_T36 x16 x18).f1) then (if ((rd_T36 x16 x18).f1) < (t217.length : Int) then (if (rd t217 ((rd_T36 x16 x18).f0)) = (rd t217 ((rd_T36 x16 x18).f1)) then (impl_TreeFirst.l0 k x0 x1 x6 x16 x17 (wrap64 (x18 + 1))) else (if x6.length < 17592186044416 then (impl_TreeFirst.l0 k x0 x1 (x6 ++ [x18]) x16 x17 (wrap64 (x18 + 1))) else (none))) else (none)) else (none)) else (none)) else (none)))) else (none)) else (none)) else (some (x6, true))
def impl_TreeFirst.f (k : Nat) (a0 : Int) (l1 : List (S36)) : Option (List Int × Bool) := (impl_NetWhole.f k a0 l1).bind fun t205 => (if t205 = true then (impl_TreeFirst.l0 k a0 l1 (([] : List Int)) l1 (l1.length : Int) 0) else (some ((([] : List Int)), false)))
set_option maxHeartbeats 8000000 in
set_option maxRecDepth 100000 in
theorem impl_TreeFirst.calls (k : Nat) (a0 : Int) (A1 : Option Addr) (c1 : Nat) (l1 : List (S36)) (r1 : List Int) (r2 : Bool) (w : World) (hr1 : Kd.C k36 w A1 l1.length l1) (hc1 : l1.length ≤ c1) (h : impl_TreeFirst.f k a0 l1 = some (r1, r2)) :
  Calls Try.prog 39 #[.int .i64 a0, .slice A1 l1.length c1] w fun e w' => ∃ v0_ : Value, e = .returned (.tuple #[v0_, .bool r2]) ∧ Kd.R (Kd.int .i64) 3 w' w.heap.size (fun _ => True) v0_ r1 ∧ Below w.heap.size w w' := by
 have hu36 := Try.underlying36
 have HR1 := Aside0.mk hr1
 have HC1 := Aside0.mk hc1
 clear hr1 hc1
 have HB := Aside0.mk (Below.refl w.heap.size w)
 have H : ((impl_NetWhole.f k a0 l1).bind fun t205 => (if t205 = true then (impl_TreeFirst.l0 k a0 l1 (([] : List Int)) l1 (l1.length : Int) 0) else (some ((([] : List Int)), false)))) = some (r1, r2) := h
 clear h
 replace H := Option.bind_eq_some_iff.mp H
 obtain ⟨t205, A30, H⟩ := H
 replace H : (if t205 = true then (impl_TreeFirst.l0 k a0 l1 (([] : List Int)) l1 (l1.length : Int) 0) else (some ((([] : List Int)), false))) = some (r1, r2) := H
 have A3 := Aside0.mk A30
 clear A30
 by_cases c4 : t205 = true
 rotate_left
 ·replace c4 := Bool.eq_false_iff.mpr c4
  subst c4
  have H1 : (some ((([] : List Int)), false)) = some (r1, r2) := by rw [if_neg (show ¬ (false = true) by decide)] at H; exact H
  clear H
  have H := H1
  clear H1
  obtain ⟨y206, hy206⟩ : ∃ y_ : List Int, y_ = (([] : List Int)) := ⟨_, rfl⟩
  replace H : (some (y206, false)) = some (r1, r2) := by first | (rw [hy206]; with_reducible exact H) | (have H2_ := (Option.bind_some _ _).symm.trans H; rw [hy206]; with_reducible exact H2_) | (have H2_ := (Option.bind_some _ _).symm.trans H; with_reducible exact H2_) | with_reducible exact H | (rw [hy206]; exact H) | exact H
  have Ny206 := Aside0.mk hy206
  clear hy206
  simp only [Option.some.injEq, Prod.mk.injEq] at H
  obtain ⟨rfl, rfl⟩ := H
  go_enter Try.func39, Try.ntmps39
  go_wp2_with (first | (go_at_call 65; (with_reducible refine (impl_NetWhole.calls k a0 _ _ l1 false _ ?side1 ?side2 A3.out).mono ?_); (case side1 => exact cl_ HR1.out); (case side2 => exact HC1.out); rintro e w36 ⟨rfl, hb⟩; have n0_ := Aside0.mk (below_step (bw_ HB.out) hb); clear HB; have HB := n0_; clear n0_; (try clear hb); (try clear hb2); (try clear hk); (try clear hi)) | ((with_reducible refine gate_dst (N := 14) rfl ?_); refine Kd.R_lit (Kd.int .i64) _ 3 ?hg (N := 14) ?hd (xs := ([] : List Int)) (inner := []) (ok := fun _ => True) (okp := fun _ => True) ?hr ?hp (fun _ hk => hk) trivial (Below.refl _ _) (Nat.le_refl _) (by simp) ?_; (case hd => rfl); (case hg => rfl); (case hr => first | (go_simp; done) | (go_simp; rfl)); (case hp => exact (Reps.none _ _)); intro v207 w37 ho38 hb hg_ hnew_; clear hg_ hnew_; (first | rw [← Ny206.out] at ho38 | (simp only [Int.reduceToNat] at ho38; rw [← Ny206.out] at ho38)); have n0_ := Aside0.mk (Kd.R_lower ho38 (below_size (bw_ HB.out))); have n1_ := Aside0.mk (below_step (bw_ HB.out) hb); clear HB; have HO208 := n0_; have HB := n1_; clear n0_ n1_; clear hb ho38) | (go_quiet (fail)))
  go_ret2
  exact ⟨_, by first | rfl | (simp [errW_none, errW_some] <;> rfl) | (simp [*, errW_none, errW_some] <;> rfl), by (with_reducible repeat (first | apply Kd.R_alloc | apply Kd.R_drewN | apply Kd.R_drew)); exact HO208.out, by repeat (first | (with_reducible first | exact HB.out | apply below_alloc | apply pw_below_drewN | apply below_drew1) | exact HB.out)⟩

 subst c4
 have H1 : (impl_TreeFirst.l0 k a0 l1 (([] : List Int)) l1 (l1.length : Int) 0) = some (r1, r2) := by rw [if_pos rfl] at H; exact H
 clear H
 have H := H1
 clear H1
 obtain ⟨y209, hy209⟩ : ∃ y_ : List Int, y_ = (([] : List Int)) := ⟨_, rfl⟩
 replace H : (impl_TreeFirst.l0 k a0 l1 y209 l1 (l1.length : Int) 0) = some (r1, r2) := by first | (rw [hy209]; with_reducible exact H) | (have H2_ := (Option.bind_some _ _).symm.trans H; rw [hy209]; with_reducible exact H2_) | (have H2_ := (Option.bind_some _ _).symm.trans H; with_reducible exact H2_) | with_reducible exact H | (rw [hy209]; exact H) | exact H
 have Ny209 := Aside0.mk hy209
 clear hy209
 have H' := Aside0.mk H
 clear H
 go_enter Try.func39, Try.ntmps39
 go_wp2_with (first | (go_at_call 65; (with_reducible refine (impl_NetWhole.calls k a0 _ _ l1 true _ ?side1 ?side2 A3.out).mono ?_); (case side1 => exact cl_ HR1.out); (case side2 => exact HC1.out); rintro e w5 ⟨rfl, hb⟩; have n0_ := Aside0.mk (below_step (bw_ HB.out) hb); clear HB; have HB := n0_; clear n0_; (try clear hb); (try clear hb2); (try clear hk); (try clear hi)) | ((with_reducible refine gate_dst (N := 15) rfl ?_); refine Kd.R_lit (Kd.int .i64) _ 3 ?hg (N := 15) ?hd (xs := ([] : List Int)) (inner := []) (ok := fun _ => True) (okp := fun _ => True) ?hr ?hp (fun _ hk => hk) trivial (Below.refl _ _) (Nat.le_refl _) (by simp) ?_; (case hd => rfl); (case hg => rfl); (case hr => first | (go_simp; done) | (go_simp; rfl)); (case hp => exact (Reps.none _ _)); intro v210 w6 ho7 hb hg_ hnew_; clear hg_ hnew_; (first | rw [← Ny209.out] at ho7 | (simp only [Int.reduceToNat] at ho7; rw [← Ny209.out] at ho7)); have n0_ := Aside0.mk (Kd.R_lower ho7 (below_size (bw_ HB.out))); have n1_ := Aside0.mk (below_step (bw_ HB.out) hb); clear HB; have HO211 := n0_; have HB := n1_; clear n0_ n1_; clear hb ho7) | (go_quiet (fail)))
 go_loopg [6, 18] k (fun kq v6 v18 w' => ∃ (x6_1 : List Int) (x18_1 : Int), v18 = .int .i64 x18_1 ∧ Aside0 (impl_TreeFirst.l0 kq a0 l1 x6_1 l1 (l1.length : Int) x18_1 = some (r1, r2)) ∧ Aside0 (kq ≤ k) ∧ Aside0 (Kd.R (Kd.int .i64) 3 w' w.heap.size (fun _ => True) v6 x6_1) ∧ Aside0 (Below w.heap.size w w'))
 case atStart => exact ⟨(y209), (0), (by first | rfl | (simp; done) | (simp [*]; done)), H', ⟨Nat.le_refl _⟩, ⟨by (with_reducible repeat (first | apply Kd.R_alloc | apply Kd.R_drewN | apply Kd.R_drew)); exact HO211.out⟩, ⟨by repeat (first | (with_reducible first | exact HB.out | apply below_alloc | apply pw_below_drewN | apply below_drew1) | exact HB.out)⟩⟩
 case round =>
  clear H'
  try clear c1; try clear p2; try clear c3; try clear c4
  obtain ⟨x6_1, x18_1, rfl, HA, HK1, HO_6, HB⟩ := hrel
  cases gk with
  | zero => exact absurd HA.out (by simp [impl_TreeFirst.l0])
  | succ k1 =>
   have H := HA.out
   clear HA
   simp only [impl_TreeFirst.l0] at H
   by_cases c8 : x18_1 < (l1.length : Int)
   rotate_left
   ·rw [if_neg c8] at H
    have c8b0 : decide (x18_1 < (l1.length : Int)) = false := decide_eq_false c8
    clear c8
    simp only [Option.some.injEq, Prod.mk.injEq] at H
    obtain ⟨rfl, rfl⟩ := H
    go_wp2
    repeat (go_quiet (fail); try go_wp2)
    go_ret2
    exact ⟨_, by first | rfl | (simp [errW_none, errW_some] <;> rfl) | (simp [*, errW_none, errW_some] <;> rfl), by (with_reducible repeat (first | apply Kd.R_alloc | apply Kd.R_drewN | apply Kd.R_drew)); exact HO_6.out, by repeat (first | (with_reducible first | exact HB.out | apply below_alloc | apply pw_below_drewN | apply below_drew1) | exact HB.out)⟩
   rw [if_pos c8] at H
   have c8b0 : decide (x18_1 < (l1.length : Int)) = true := decide_eq_true c8
   clear c8
   by_cases c9 : 0 ≤ x18_1
   rotate_left
   ·rw [if_neg c9] at H
    exact absurd H (by simp)
   rw [if_pos c9] at H
   have c9b0 : decide (0 ≤ x18_1) = true := decide_eq_true c9
   clear c9
   by_cases c10 : x18_1 < (l1.length : Int)
   rotate_left
   ·rw [if_neg c10] at H
    exact absurd H (by simp)
   rw [if_pos c10] at H
   have c10b0 : decide (x18_1 < (l1.length : Int)) = true := decide_eq_true c10
   clear c10
   replace H := Option.bind_eq_some_iff.mp H
   obtain ⟨t214, A110, H⟩ := H
   replace H : ((impl_leastLinked.f a0 t214).bind fun t217 => (if 0 ≤ ((rd_T36 l1 x18_1).f0) then (if ((rd_T36 l1 x18_1).f0) < (t217.length : Int) then (if 0 ≤ ((rd_T36 l1 x18_1).f1) then (if ((rd_T36 l1 x18_1).f1) < (t217.length : Int) then (if (rd t217 ((rd_T36 l1 x18_1).f0)) = (rd t217 ((rd_T36 l1 x18_1).f1)) then (impl_TreeFirst.l0 k1 a0 l1 x6_1 l1 (l1.length : Int) (wrap64 (x18_1 + 1))) else (if x6_1.length < 17592186044416 then (impl_TreeFirst.l0 k1 a0 l1 (x6_1 ++ [x18_1]) l1 (l1.length : Int) (wrap64 (x18_1 + 1))) else (none))) else (none)) else (none)) else (none)) else (none))) = some (r1, r2) := H
   have A11 := Aside0.mk A110
   clear A110
   replace H := Option.bind_eq_some_iff.mp H
   obtain ⟨t217, A120, H⟩ := H
   replace H : (if 0 ≤ ((rd_T36 l1 x18_1).f0) then (if ((rd_T36 l1 x18_1).f0) < (t217.length : Int) then (if 0 ≤ ((rd_T36 l1 x18_1).f1) then (if ((rd_T36 l1 x18_1).f1) < (t217.length : Int) then (if (rd t217 ((rd_T36 l1 x18_1).f0)) = (rd t217 ((rd_T36 l1 x18_1).f1)) then (impl_TreeFirst.l0 k1 a0 l1 x6_1 l1 (l1.length : Int) (wrap64 (x18_1 + 1))) else (if x6_1.length < 17592186044416 then (impl_TreeFirst.l0 k1 a0 l1 (x6_1 ++ [x18_1]) l1 (l1.length : Int) (wrap64 (x18_1 + 1))) else (none))) else (none)) else (none)) else (none)) else (none)) = some (r1, r2) := H
   have A12 := Aside0.mk A120
   clear A120
   by_cases c13 : 0 ≤ ((rd_T36 l1 x18_1).f0)
   rotate_left
   ·rw [if_neg c13] at H
    exact absurd H (by simp)
   rw [if_pos c13] at H
   have c13b0 : decide (0 ≤ ((rd_T36 l1 x18_1).f0)) = true := decide_eq_true c13
   clear c13
   by_cases c14 : ((rd_T36 l1 x18_1).f0) < (t217.length : Int)
   rotate_left
   ·rw [if_neg c14] at H
    exact absurd H (by simp)
   rw [if_pos c14] at H
   have c14b0 : decide (((rd_T36 l1 x18_1).f0) < (t217.length : Int)) = true := decide_eq_true c14
   clear c14
   by_cases c15 : 0 ≤ ((rd_T36 l1 x18_1).f1)
   rotate_left
   ·rw [if_neg c15] at H
    exact absurd H (by simp)
   rw [if_pos c15] at H
   have c15b0 : decide (0 ≤ ((rd_T36 l1 x18_1).f1)) = true := decide_eq_true c15
   clear c15
   by_cases c16 : ((rd_T36 l1 x18_1).f1) < (t217.length : Int)
   rotate_left
   ·rw [if_neg c16] at H
    exact absurd H (by simp)
   rw [if_pos c16] at H
   have c16b0 : decide (((rd_T36 l1 x18_1).f1) < (t217.length : Int)) = true := decide_eq_true c16
   clear c16
   by_cases c17 : (rd t217 ((rd_T36 l1 x18_1).f0)) = (rd t217 ((rd_T36 l1 x18_1).f1))
   ·rw [if_pos c17] at H
    have c17b0 : ((rd t217 ((rd_T36 l1 x18_1).f0)) == (rd t217 ((rd_T36 l1 x18_1).f1))) = true := beq_iff_eq.mpr c17
    have c17b1 : ((rd t217 ((rd_T36 l1 x18_1).f0)) != (rd t217 ((rd_T36 l1 x18_1).f1))) = false := bne_eq_false_iff_eq.mpr c17
    clear c17
    have H' := Aside0.mk H
    clear H
    have p212 : 0 ≤ (x18_1 : Int) := od_
    have q212 : x18_1 < (l1.length : Int) := od_
    obtain ⟨ad212, e212, hx212_0, hx212_1, hx212_2, hx212_3⟩ := at_T36 HR1.out x18_1 p212 q212
    cases e212
    replace hx212_0 := up_ HB.out hx212_0
    replace hx212_1 := up_ HB.out hx212_1
    replace hx212_2 := up_ HB.out hx212_2
    replace hx212_3 := up_ HB.out hx212_3
    replace p212 := eq_true p212
    replace q212 := eq_true q212
    go_wp2_with (first | ((with_reducible refine gate_dst (N := 8) rfl ?_); refine box_event ?hg (N := 8) ?hd (cs := #[.int .i64 0, .int .i64 0, .int .i64 0, .int .i64 0]) (t := 36) ?hr ?_; (case hd => rfl); (case hg => rfl); (case hr => first | (go_simp; done) | (go_simp; rfl)); intro gb213 hg w18 hbox hb; have n0_ := Aside0.mk (Kd.R_below (rl_ HO_6.out) hb); have n1_ := Aside0.mk (below_step (bw_ HB.out) hb); have n2_ := Aside0.mk (hbox); have n3_ := Aside0.mk ((by rw [hg]; exact (below_size (bw_ HB.out)) : w.heap.size ≤ gb213)); have n4_ := Aside0.mk ((by rw [hg]; exact (below_size (bw_ HB.out)) : w.heap.size ≤ gb213)); clear HO_6; clear HB; have HO_6 := n0_; have HB := n1_; have BK213 := n2_; have GW213 := n3_; have GE213 := n4_; clear n0_ n1_ n2_ n3_ n4_; clear hb hbox hg; have hcz19_0 : w18.cell? ⟨gb213, 0, none⟩ = some (.int .i64 0) := (blk_cell BK213.out 0).trans rfl; have hcz19_1 : w18.cell? ⟨gb213, 1, none⟩ = some (.int .i64 0) := (blk_cell BK213.out 1).trans rfl; have hcz19_2 : w18.cell? ⟨gb213, 2, none⟩ = some (.int .i64 0) := (blk_cell BK213.out 2).trans rfl; have hcz19_3 : w18.cell? ⟨gb213, 3, none⟩ = some (.int .i64 0) := (blk_cell BK213.out 3).trans rfl; have hfz19_0 := blk_frozen BK213.out 0; have hfz19_1 := blk_frozen BK213.out 1; have hfz19_2 := blk_frozen BK213.out 2; have hfz19_3 := blk_frozen BK213.out 3; obtain ⟨Ao20, co20, eo20⟩ := Kd.R_slice HO_6.out; subst eo20) | (go_at_call 105; (with_reducible refine (impl_pick.calls k1 _ _ l1 _ _ x6_1 t214 _ ?side1 ?side2 ?side3 ?side4 A11.out).mono ?_); (case side1 => exact Kd.C_below HR1.out (bs_ HB.out GE213.out)); (case side2 => exact HC1.out); (case side3 => refine (Kd.R_reads' (e := 3) (base := w.heap.size) (ok := fun k_ => True) (n := x6_1.length) (c := co20) ?_).2.2; exact (by (with_reducible repeat (first | apply Kd.R_alloc | apply Kd.R_drewN | apply Kd.R_drew)); exact (Kd.R_mono (Kd.R_far (p := ⟨gb213, 3, none⟩) (Kd.R_far (p := ⟨gb213, 2, none⟩) (Kd.R_far (p := ⟨gb213, 1, none⟩) (Kd.R_far (p := ⟨gb213, 0, none⟩) (Kd.R_types HO_6.out BK213.out (by decide)) (fun _ hk => hk.2) (.int .i64 ((rd_T36 l1 x18_1).f0))) (fun _ hk => hk.2) (.int .i64 ((rd_T36 l1 x18_1).f1))) (fun _ hk => hk.2) (.int .i64 ((rd_T36 l1 x18_1).f2))) (fun _ hk => hk.2) (.int .i64 ((rd_T36 l1 x18_1).f3))) (fun _ h_ => h_.1)))); (case side4 => exact (Kd.R_reads' HO_6.out).2.1); rintro e w21 ⟨v215, rfl, ho0, hb⟩; have n0_ := Aside0.mk (Kd.R_below (by (with_reducible repeat (first | apply Kd.R_alloc | apply Kd.R_drewN | apply Kd.R_drew)); exact (Kd.R_mono (Kd.R_far (p := ⟨gb213, 3, none⟩) (Kd.R_far (p := ⟨gb213, 2, none⟩) (Kd.R_far (p := ⟨gb213, 1, none⟩) (Kd.R_far (p := ⟨gb213, 0, none⟩) (Kd.R_types HO_6.out BK213.out (by decide)) (fun _ hk => hk.2) (.int .i64 ((rd_T36 l1 x18_1).f0))) (fun _ hk => hk.2) (.int .i64 ((rd_T36 l1 x18_1).f1))) (fun _ hk => hk.2) (.int .i64 ((rd_T36 l1 x18_1).f2))) (fun _ hk => hk.2) (.int .i64 ((rd_T36 l1 x18_1).f3))) (fun _ h_ => h_.1))) hb); have n1_ := Aside0.mk (Kd.R_lower (Kd.R_newB ho0 (g := gb213) (o := .cells #[.int .i64 ((rd_T36 l1 x18_1).f0), .int .i64 ((rd_T36 l1 x18_1).f1), .int .i64 ((rd_T36 l1 x18_1).f2), .int .i64 ((rd_T36 l1 x18_1).f3)] 36 (0, 0)) (by (with_reducible repeat (first | refine blk_drewN ?_ _ | refine blk_drew ?_ | refine blk_alloc ?_ _)); refine blk_put (cs := #[.int .i64 ((rd_T36 l1 x18_1).f0), .int .i64 ((rd_T36 l1 x18_1).f1), .int .i64 ((rd_T36 l1 x18_1).f2), .int .i64 0]) ?_ 3 _ rfl; (with_reducible repeat (first | refine blk_drewN ?_ _ | refine blk_drew ?_ | refine blk_alloc ?_ _)); refine blk_put (cs := #[.int .i64 ((rd_T36 l1 x18_1).f0), .int .i64 ((rd_T36 l1 x18_1).f1), .int .i64 0, .int .i64 0]) ?_ 2 _ rfl; (with_reducible repeat (first | refine blk_drewN ?_ _ | refine blk_drew ?_ | refine blk_alloc ?_ _)); refine blk_put (cs := #[.int .i64 ((rd_T36 l1 x18_1).f0), .int .i64 0, .int .i64 0, .int .i64 0]) ?_ 1 _ rfl; (with_reducible repeat (first | refine blk_drewN ?_ _ | refine blk_drew ?_ | refine blk_alloc ?_ _)); refine blk_put (cs := #[.int .i64 0, .int .i64 0, .int .i64 0, .int .i64 0]) ?_ 0 _ rfl; (with_reducible repeat (first | refine blk_drewN ?_ _ | refine blk_drew ?_ | refine blk_alloc ?_ _)); exact BK213.out)) (below_size (bs_ HB.out GE213.out))); have n2_ := Aside0.mk (blk_below (g := gb213) (o := .cells #[.int .i64 ((rd_T36 l1 x18_1).f0), .int .i64 ((rd_T36 l1 x18_1).f1), .int .i64 ((rd_T36 l1 x18_1).f2), .int .i64 ((rd_T36 l1 x18_1).f3)] 36 (0, 0)) (by (with_reducible repeat (first | refine blk_drewN ?_ _ | refine blk_drew ?_ | refine blk_alloc ?_ _)); refine blk_put (cs := #[.int .i64 ((rd_T36 l1 x18_1).f0), .int .i64 ((rd_T36 l1 x18_1).f1), .int .i64 ((rd_T36 l1 x18_1).f2), .int .i64 0]) ?_ 3 _ rfl; (with_reducible repeat (first | refine blk_drewN ?_ _ | refine blk_drew ?_ | refine blk_alloc ?_ _)); refine blk_put (cs := #[.int .i64 ((rd_T36 l1 x18_1).f0), .int .i64 ((rd_T36 l1 x18_1).f1), .int .i64 0, .int .i64 0]) ?_ 2 _ rfl; (with_reducible repeat (first | refine blk_drewN ?_ _ | refine blk_drew ?_ | refine blk_alloc ?_ _)); refine blk_put (cs := #[.int .i64 ((rd_T36 l1 x18_1).f0), .int .i64 0, .int .i64 0, .int .i64 0]) ?_ 1 _ rfl; (with_reducible repeat (first | refine blk_drewN ?_ _ | refine blk_drew ?_ | refine blk_alloc ?_ _)); refine blk_put (cs := #[.int .i64 0, .int .i64 0, .int .i64 0, .int .i64 0]) ?_ 0 _ rfl; (with_reducible repeat (first | refine blk_drewN ?_ _ | refine blk_drew ?_ | refine blk_alloc ?_ _)); exact BK213.out) hb); have n3_ := Aside0.mk (below_step (bs_ HB.out GE213.out) hb); clear HO_6; clear BK213; clear HB; have HO_6 := n0_; have HO216 := n1_; have BK213 := n2_; have HB := n3_; clear n0_ n1_ n2_ n3_; (try clear hb); (try clear hb2); (try clear hk); (try clear hi); (try clear ho0); obtain ⟨Ao22, co22, eo22⟩ := Kd.R_slice HO216.out; subst eo22) | (go_at_call 104; (with_reducible refine (impl_leastLinked.calls a0 _ _ t214 t217 _ ?side1 ?side2 A12.out).mono ?_); (case side1 => exact cl_ (Kd.R_reads' HO216.out).2.2); (case side2 => exact (Kd.R_reads' HO216.out).2.1); rintro e w23 ⟨v218, rfl, ho0, hb⟩; have n0_ := Aside0.mk (Kd.R_elder' (rl_ HO_6.out) (Kd.R_base ho0) hb); have n1_ := Aside0.mk (Kd.R_below (rl_ HO216.out) hb); have n2_ := Aside0.mk (Kd.R_lower (Kd.R_new' ho0 (Kd.R_lt (rl_ HO_6.out))) (below_size (bs_ HB.out GE213.out))); have n3_ := Aside0.mk (blk_below (g := gb213) (o := .cells #[.int .i64 ((rd_T36 l1 x18_1).f0), .int .i64 ((rd_T36 l1 x18_1).f1), .int .i64 ((rd_T36 l1 x18_1).f2), .int .i64 ((rd_T36 l1 x18_1).f3)] 36 (0, 0)) (bk_ BK213.out) hb); have n4_ := Aside0.mk (below_step (bs_ HB.out GE213.out) hb); clear HO_6; clear HO216; clear BK213; clear HB; have HO_6 := n0_; have HO216 := n1_; have HO219 := n2_; have BK213 := n3_; have HB := n4_; clear n0_ n1_ n2_ n3_ n4_; (try clear hb); (try clear hb2); (try clear hk); (try clear hi); (try clear ho0); have hcz24_0 : w23.cell? ⟨gb213, 0, none⟩ = some (.int .i64 ((rd_T36 l1 x18_1).f0)) := (blk_cell BK213.out 0).trans rfl; have hcz24_1 : w23.cell? ⟨gb213, 1, none⟩ = some (.int .i64 ((rd_T36 l1 x18_1).f1)) := (blk_cell BK213.out 1).trans rfl; have hcz24_2 : w23.cell? ⟨gb213, 2, none⟩ = some (.int .i64 ((rd_T36 l1 x18_1).f2)) := (blk_cell BK213.out 2).trans rfl; have hcz24_3 : w23.cell? ⟨gb213, 3, none⟩ = some (.int .i64 ((rd_T36 l1 x18_1).f3)) := (blk_cell BK213.out 3).trans rfl; have hfz24_0 := blk_frozen BK213.out 0; have hfz24_1 := blk_frozen BK213.out 1; have hfz24_2 := blk_frozen BK213.out 2; have hfz24_3 := blk_frozen BK213.out 3; obtain ⟨Ao25, co25, eo25⟩ := Kd.R_slice HO219.out; subst eo25; have p220 : 0 ≤ (((rd_T36 l1 x18_1).f0) : Int) := od_; have q220 : ((rd_T36 l1 x18_1).f0) < (t217.length : Int) := od_; obtain ⟨ad220, e220, hx220_0⟩ := Kd.at_int (Kd.R_reads' HO219.out).2.2 ((rd_T36 l1 x18_1).f0) p220 q220; cases e220; replace p220 := eq_true p220; replace q220 := eq_true q220; have p221 : 0 ≤ (((rd_T36 l1 x18_1).f1) : Int) := od_; have q221 : ((rd_T36 l1 x18_1).f1) < (t217.length : Int) := od_; obtain ⟨ad221, e221, hx221_0⟩ := Kd.at_int (Kd.R_reads' HO219.out).2.2 ((rd_T36 l1 x18_1).f1) p221 q221; obtain rfl : ad220 = ad221 := (by injection e221); replace p221 := eq_true p221; replace q221 := eq_true q221) | (go_quiet (fail)))
    go_roundg k1
    case measure => have := HK1.out; omega
    case rel => exact ⟨(x6_1), (wrap64 (x18_1 + 1)), (by first | rfl | (simp; done) | (simp [*]; done)), H', ⟨by have := HK1.out; omega⟩, ⟨by (with_reducible repeat (first | apply Kd.R_alloc | apply Kd.R_drewN | apply Kd.R_drew)); exact Kd.R_mono HO_6.out (fun _ hk => trivial)⟩, ⟨by repeat (first | (with_reducible first | exact HB.out | apply below_alloc | apply pw_below_drewN | apply below_drew1 | refine below_set ?_ GE213.out) | exact HB.out)⟩⟩
   rw [if_neg c17] at H
   have c17b0 : ((rd t217 ((rd_T36 l1 x18_1).f0)) == (rd t217 ((rd_T36 l1 x18_1).f1))) = false := beq_eq_false_iff_ne.mpr c17
   have c17b1 : ((rd t217 ((rd_T36 l1 x18_1).f0)) != (rd t217 ((rd_T36 l1 x18_1).f1))) = true := bne_iff_ne.mpr c17
   by_cases c26 : x6_1.length < 17592186044416
   rotate_left
   ·rw [if_neg c26] at H
    exact absurd H (by simp)
   rw [if_pos c26] at H
   have LMc26 := Aside0.mk c26
   clear c26
   obtain ⟨y222, hy222⟩ : ∃ y_ : List Int, y_ = (x6_1 ++ [x18_1]) := ⟨_, rfl⟩
   replace H : (impl_TreeFirst.l0 k1 a0 l1 y222 l1 (l1.length : Int) (wrap64 (x18_1 + 1))) = some (r1, r2) := by first | (rw [hy222]; with_reducible exact H) | (have H2_ := (Option.bind_some _ _).symm.trans H; rw [hy222]; with_reducible exact H2_) | (have H2_ := (Option.bind_some _ _).symm.trans H; with_reducible exact H2_) | with_reducible exact H | (rw [hy222]; exact H) | exact H
   have Ny222 := Aside0.mk hy222
   clear hy222
   have H' := Aside0.mk H
   clear H
   have p212 : 0 ≤ (x18_1 : Int) := od_
   have q212 : x18_1 < (l1.length : Int) := od_
   obtain ⟨ad212, e212, hx212_0, hx212_1, hx212_2, hx212_3⟩ := at_T36 HR1.out x18_1 p212 q212
   cases e212
   replace hx212_0 := up_ HB.out hx212_0
   replace hx212_1 := up_ HB.out hx212_1
   replace hx212_2 := up_ HB.out hx212_2
   replace hx212_3 := up_ HB.out hx212_3
   replace p212 := eq_true p212
   replace q212 := eq_true q212
   go_wp2_with (first | ((with_reducible refine gate_dst (N := 8) rfl ?_); refine box_event ?hg (N := 8) ?hd (cs := #[.int .i64 0, .int .i64 0, .int .i64 0, .int .i64 0]) (t := 36) ?hr ?_; (case hd => rfl); (case hg => rfl); (case hr => first | (go_simp; done) | (go_simp; rfl)); intro gb213 hg w27 hbox hb; have n0_ := Aside0.mk (Kd.R_below (rl_ HO_6.out) hb); have n1_ := Aside0.mk (below_step (bw_ HB.out) hb); have n2_ := Aside0.mk (hbox); have n3_ := Aside0.mk ((by rw [hg]; exact (below_size (bw_ HB.out)) : w.heap.size ≤ gb213)); have n4_ := Aside0.mk ((by rw [hg]; exact (below_size (bw_ HB.out)) : w.heap.size ≤ gb213)); clear HO_6; clear HB; have HO_6 := n0_; have HB := n1_; have BK213 := n2_; have GW213 := n3_; have GE213 := n4_; clear n0_ n1_ n2_ n3_ n4_; clear hb hbox hg; have hcz28_0 : w27.cell? ⟨gb213, 0, none⟩ = some (.int .i64 0) := (blk_cell BK213.out 0).trans rfl; have hcz28_1 : w27.cell? ⟨gb213, 1, none⟩ = some (.int .i64 0) := (blk_cell BK213.out 1).trans rfl; have hcz28_2 : w27.cell? ⟨gb213, 2, none⟩ = some (.int .i64 0) := (blk_cell BK213.out 2).trans rfl; have hcz28_3 : w27.cell? ⟨gb213, 3, none⟩ = some (.int .i64 0) := (blk_cell BK213.out 3).trans rfl; have hfz28_0 := blk_frozen BK213.out 0; have hfz28_1 := blk_frozen BK213.out 1; have hfz28_2 := blk_frozen BK213.out 2; have hfz28_3 := blk_frozen BK213.out 3; obtain ⟨Ao29, co29, eo29⟩ := Kd.R_slice HO_6.out; subst eo29) | (go_at_call 105; (with_reducible refine (impl_pick.calls k1 _ _ l1 _ _ x6_1 t214 _ ?side1 ?side2 ?side3 ?side4 A11.out).mono ?_); (case side1 => exact Kd.C_below HR1.out (bs_ HB.out GE213.out)); (case side2 => exact HC1.out); (case side3 => refine (Kd.R_reads' (e := 3) (base := w.heap.size) (ok := fun k_ => True) (n := x6_1.length) (c := co29) ?_).2.2; exact (by (with_reducible repeat (first | apply Kd.R_alloc | apply Kd.R_drewN | apply Kd.R_drew)); exact (Kd.R_mono (Kd.R_far (p := ⟨gb213, 3, none⟩) (Kd.R_far (p := ⟨gb213, 2, none⟩) (Kd.R_far (p := ⟨gb213, 1, none⟩) (Kd.R_far (p := ⟨gb213, 0, none⟩) (Kd.R_types HO_6.out BK213.out (by decide)) (fun _ hk => hk.2) (.int .i64 ((rd_T36 l1 x18_1).f0))) (fun _ hk => hk.2) (.int .i64 ((rd_T36 l1 x18_1).f1))) (fun _ hk => hk.2) (.int .i64 ((rd_T36 l1 x18_1).f2))) (fun _ hk => hk.2) (.int .i64 ((rd_T36 l1 x18_1).f3))) (fun _ h_ => h_.1)))); (case side4 => exact (Kd.R_reads' HO_6.out).2.1); rintro e w30 ⟨v215, rfl, ho0, hb⟩; have n0_ := Aside0.mk (Kd.R_below (by (with_reducible repeat (first | apply Kd.R_alloc | apply Kd.R_drewN | apply Kd.R_drew)); exact (Kd.R_mono (Kd.R_far (p := ⟨gb213, 3, none⟩) (Kd.R_far (p := ⟨gb213, 2, none⟩) (Kd.R_far (p := ⟨gb213, 1, none⟩) (Kd.R_far (p := ⟨gb213, 0, none⟩) (Kd.R_types HO_6.out BK213.out (by decide)) (fun _ hk => hk.2) (.int .i64 ((rd_T36 l1 x18_1).f0))) (fun _ hk => hk.2) (.int .i64 ((rd_T36 l1 x18_1).f1))) (fun _ hk => hk.2) (.int .i64 ((rd_T36 l1 x18_1).f2))) (fun _ hk => hk.2) (.int .i64 ((rd_T36 l1 x18_1).f3))) (fun _ h_ => h_.1))) hb); have n1_ := Aside0.mk (Kd.R_lower (Kd.R_newB ho0 (g := gb213) (o := .cells #[.int .i64 ((rd_T36 l1 x18_1).f0), .int .i64 ((rd_T36 l1 x18_1).f1), .int .i64 ((rd_T36 l1 x18_1).f2), .int .i64 ((rd_T36 l1 x18_1).f3)] 36 (0, 0)) (by (with_reducible repeat (first | refine blk_drewN ?_ _ | refine blk_drew ?_ | refine blk_alloc ?_ _)); refine blk_put (cs := #[.int .i64 ((rd_T36 l1 x18_1).f0), .int .i64 ((rd_T36 l1 x18_1).f1), .int .i64 ((rd_T36 l1 x18_1).f2), .int .i64 0]) ?_ 3 _ rfl; (with_reducible repeat (first | refine blk_drewN ?_ _ | refine blk_drew ?_ | refine blk_alloc ?_ _)); refine blk_put (cs := #[.int .i64 ((rd_T36 l1 x18_1).f0), .int .i64 ((rd_T36 l1 x18_1).f1), .int .i64 0, .int .i64 0]) ?_ 2 _ rfl; (with_reducible repeat (first | refine blk_drewN ?_ _ | refine blk_drew ?_ | refine blk_alloc ?_ _)); refine blk_put (cs := #[.int .i64 ((rd_T36 l1 x18_1).f0), .int .i64 0, .int .i64 0, .int .i64 0]) ?_ 1 _ rfl; (with_reducible repeat (first | refine blk_drewN ?_ _ | refine blk_drew ?_ | refine blk_alloc ?_ _)); refine blk_put (cs := #[.int .i64 0, .int .i64 0, .int .i64 0, .int .i64 0]) ?_ 0 _ rfl; (with_reducible repeat (first | refine blk_drewN ?_ _ | refine blk_drew ?_ | refine blk_alloc ?_ _)); exact BK213.out)) (below_size (bs_ HB.out GE213.out))); have n2_ := Aside0.mk (blk_below (g := gb213) (o := .cells #[.int .i64 ((rd_T36 l1 x18_1).f0), .int .i64 ((rd_T36 l1 x18_1).f1), .int .i64 ((rd_T36 l1 x18_1).f2), .int .i64 ((rd_T36 l1 x18_1).f3)] 36 (0, 0)) (by (with_reducible repeat (first | refine blk_drewN ?_ _ | refine blk_drew ?_ | refine blk_alloc ?_ _)); refine blk_put (cs := #[.int .i64 ((rd_T36 l1 x18_1).f0), .int .i64 ((rd_T36 l1 x18_1).f1), .int .i64 ((rd_T36 l1 x18_1).f2), .int .i64 0]) ?_ 3 _ rfl; (with_reducible repeat (first | refine blk_drewN ?_ _ | refine blk_drew ?_ | refine blk_alloc ?_ _)); refine blk_put (cs := #[.int .i64 ((rd_T36 l1 x18_1).f0), .int .i64 ((rd_T36 l1 x18_1).f1), .int .i64 0, .int .i64 0]) ?_ 2 _ rfl; (with_reducible repeat (first | refine blk_drewN ?_ _ | refine blk_drew ?_ | refine blk_alloc ?_ _)); refine blk_put (cs := #[.int .i64 ((rd_T36 l1 x18_1).f0), .int .i64 0, .int .i64 0, .int .i64 0]) ?_ 1 _ rfl; (with_reducible repeat (first | refine blk_drewN ?_ _ | refine blk_drew ?_ | refine blk_alloc ?_ _)); refine blk_put (cs := #[.int .i64 0, .int .i64 0, .int .i64 0, .int .i64 0]) ?_ 0 _ rfl; (with_reducible repeat (first | refine blk_drewN ?_ _ | refine blk_drew ?_ | refine blk_alloc ?_ _)); exact BK213.out) hb); have n3_ := Aside0.mk (below_step (bs_ HB.out GE213.out) hb); clear HO_6; clear BK213; clear HB; have HO_6 := n0_; have HO216 := n1_; have BK213 := n2_; have HB := n3_; clear n0_ n1_ n2_ n3_; (try clear hb); (try clear hb2); (try clear hk); (try clear hi); (try clear ho0); obtain ⟨Ao31, co31, eo31⟩ := Kd.R_slice HO216.out; subst eo31) | (go_at_call 104; (with_reducible refine (impl_leastLinked.calls a0 _ _ t214 t217 _ ?side1 ?side2 A12.out).mono ?_); (case side1 => exact cl_ (Kd.R_reads' HO216.out).2.2); (case side2 => exact (Kd.R_reads' HO216.out).2.1); rintro e w32 ⟨v218, rfl, ho0, hb⟩; have n0_ := Aside0.mk (Kd.R_elder' (rl_ HO_6.out) (Kd.R_base ho0) hb); have n1_ := Aside0.mk (Kd.R_below (rl_ HO216.out) hb); have n2_ := Aside0.mk (Kd.R_lower (Kd.R_new' ho0 (Kd.R_lt (rl_ HO_6.out))) (below_size (bs_ HB.out GE213.out))); have n3_ := Aside0.mk (blk_below (g := gb213) (o := .cells #[.int .i64 ((rd_T36 l1 x18_1).f0), .int .i64 ((rd_T36 l1 x18_1).f1), .int .i64 ((rd_T36 l1 x18_1).f2), .int .i64 ((rd_T36 l1 x18_1).f3)] 36 (0, 0)) (bk_ BK213.out) hb); have n4_ := Aside0.mk (below_step (bs_ HB.out GE213.out) hb); clear HO_6; clear HO216; clear BK213; clear HB; have HO_6 := n0_; have HO216 := n1_; have HO219 := n2_; have BK213 := n3_; have HB := n4_; clear n0_ n1_ n2_ n3_ n4_; (try clear hb); (try clear hb2); (try clear hk); (try clear hi); (try clear ho0); have hcz33_0 : w32.cell? ⟨gb213, 0, none⟩ = some (.int .i64 ((rd_T36 l1 x18_1).f0)) := (blk_cell BK213.out 0).trans rfl; have hcz33_1 : w32.cell? ⟨gb213, 1, none⟩ = some (.int .i64 ((rd_T36 l1 x18_1).f1)) := (blk_cell BK213.out 1).trans rfl; have hcz33_2 : w32.cell? ⟨gb213, 2, none⟩ = some (.int .i64 ((rd_T36 l1 x18_1).f2)) := (blk_cell BK213.out 2).trans rfl; have hcz33_3 : w32.cell? ⟨gb213, 3, none⟩ = some (.int .i64 ((rd_T36 l1 x18_1).f3)) := (blk_cell BK213.out 3).trans rfl; have hfz33_0 := blk_frozen BK213.out 0; have hfz33_1 := blk_frozen BK213.out 1; have hfz33_2 := blk_frozen BK213.out 2; have hfz33_3 := blk_frozen BK213.out 3; obtain ⟨Ao34, co34, eo34⟩ := Kd.R_slice HO219.out; subst eo34; have p220 : 0 ≤ (((rd_T36 l1 x18_1).f0) : Int) := od_; have q220 : ((rd_T36 l1 x18_1).f0) < (t217.length : Int) := od_; obtain ⟨ad220, e220, hx220_0⟩ := Kd.at_int (Kd.R_reads' HO219.out).2.2 ((rd_T36 l1 x18_1).f0) p220 q220; cases e220; replace p220 := eq_true p220; replace q220 := eq_true q220; have p221 : 0 ≤ (((rd_T36 l1 x18_1).f1) : Int) := od_; have q221 : ((rd_T36 l1 x18_1).f1) < (t217.length : Int) := od_; obtain ⟨ad221, e221, hx221_0⟩ := Kd.at_int (Kd.R_reads' HO219.out).2.2 ((rd_T36 l1 x18_1).f1) p221 q221; obtain rfl : ad220 = ad221 := (by injection e221); replace p221 := eq_true p221; replace q221 := eq_true q221) | ((with_reducible refine gate_builtin (b := .append) (xs := #[.tmp 39, .tmp 41]) rfl ?_); at_builtin; refine Kd.R_append (Kd.int .i64) (w0 := w) w.heap.size rfl (.tmp 39) (.tmp 41) 26 3 (.int .i64 0) 8 rfl Try.underlying26 info3 rfl (by decide) (by omega) (.slice Ao29 x6_1.length co29) x6_1 x18_1 [.int .i64 x18_1] (fun k_ => some k_ ≠ (.slice (some ad220) t217.length co34 : Value).ownBlock) (fun _ => False) rfl rfl ?aP (fun _ hk => hk.elim) ?aF ?aO ?aB ?aS ?aL ?_; (case aP => exact rfl); (case aB => exact (bs_ HB.out GE213.out)); (case aF => exact (fun k_ hk => Kd.fresh' (Kd.R_lt (rl_ HO219.out)) k_ hk)); (case aO => exact (by (with_reducible repeat (first | apply Kd.R_alloc | apply Kd.R_drewN | apply Kd.R_drew)); exact Kd.R_mono HO_6.out (fun _ hk => hk.2))); (case aS => exact (below_size (bs_ HB.out GE213.out))); (case aL => have := LMc26.out; omega); intro v223 w35 ho hb hg hat; rw [← Ny222.out] at ho; have n0_ := Aside0.mk (blk_grown (g := gb213) (o := .cells #[.int .i64 ((rd_T36 l1 x18_1).f0), .int .i64 ((rd_T36 l1 x18_1).f1), .int .i64 ((rd_T36 l1 x18_1).f2), .int .i64 ((rd_T36 l1 x18_1).f3)] 36 (0, 0)) (bk_ BK213.out) hg (Kd.R_ne HO_6.out BK213.out (by decide))); have n1_ := Aside0.mk (Kd.R_over' (rl_ HO216.out) (Kd.R_typed (rl_ HO_6.out)) (by decide) hg); have n2_ := Aside0.mk (Kd.R_after (ok := (fun _ => True)) (rl_ HO219.out) hg hat); have n3_ := Aside0.mk (hb); have n4_ := Aside0.mk (ho); clear BK213; clear HO216; clear HO219; clear HB; clear HO_6; have BK213 := n0_; have HO216 := n1_; have HO219 := n2_; have HB := n3_; have HO224 := n4_; clear n0_ n1_ n2_ n3_ n4_; clear ho hb hg hat) | (go_quiet (fail)))
   go_roundg k1
   case measure => have := HK1.out; omega
   case rel => exact ⟨(y222), (wrap64 (x18_1 + 1)), (by first | rfl | (simp; done) | (simp [*]; done)), H', ⟨by have := HK1.out; omega⟩, ⟨by (with_reducible repeat (first | apply Kd.R_alloc | apply Kd.R_drewN | apply Kd.R_drew)); exact Kd.R_mono HO224.out (fun _ hk => trivial)⟩, ⟨by repeat (first | (with_reducible first | exact HB.out | apply below_alloc | apply pw_below_drewN | apply below_drew1 | refine below_set ?_ GE213.out) | exact HB.out)⟩⟩
end Go.Proofs.Ytbnndmkkmceenaa.P1
