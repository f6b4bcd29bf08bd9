-- squeezed
-- dedented
-- Written by a program (wip/tools/mkprint.py) over the kit's print.
import Derived.Test.YtbnndmkkmceenaaP0x0
import Derived.Test.YtbnndmkkmceenaaP0x29
import Derived.Test.YtbnndmkkmceenaaP0x30
namespace Go.Proofs.Ytbnndmkkmceenaa.P0
open Go.RowKit Go.Proofs.Ytbnndmkkmceenaa.Hand Go.Proofs.YtbnndmkkmceenaaW.PrintWords Go.Proofs.YtbnndmkkmceenaaW.PrintLast
set_option linter.unusedVariables false
set_option linter.unusedSimpArgs false

/-! ### spec_l12Some: function 116 -/
def spec_l12Some.l0 : Nat → List (S36) → List Int → List (S36) → Int → Option ((List (S36)))
 | 0, _, _, _, _ => none
 | k + 1, x0, x1, x5, x6 => if x6 < (x1.length : Int) then (if 0 ≤ x6 then (if 0 ≤ (rd x1 x6) then (if (rd x1 x6) < (x0.length : Int) then (if x5.length < 4398046511104 then (spec_l12Some.l0 k x0 x1 (x5 ++ [(⟨(rd_T36 x0 (rd x1 x6)).f0, (rd_T36 x0 (rd x1 x6)).f1, (rd_T36 x0 (rd x1 x6)).f2, (rd_T36 x0 (rd x1 x6)).f3⟩ : S36)]) (wrap64 (x6 + 1))) else (none)) else (none)) else (none)) else (none)) else (some x5)
def spec_l12Some.f (k : Nat) (l0 : List (S36)) (l1 : List Int) : Option ((List (S36))) := spec_l12Some.l0 k l0 l1 (([] : List (S36))) 0
set_option maxHeartbeats 8000000 in
set_option maxRecDepth 100000 in
theorem spec_l12Some.calls (k : Nat) (A0 : Option Addr) (c0 : Nat) (l0 : List (S36)) (A1 : Option Addr) (c1 : Nat) (l1 : List Int) (r : List (S36)) (w : World) (hr0 : Kd.C k36 w A0 l0.length l0) (hc0 : l0.length ≤ c0) (hr1 : Kd.C (Kd.int .i64) w A1 l1.length l1) (hc1 : l1.length ≤ c1) (h : spec_l12Some.f k l0 l1 = some r) :
  Calls Try.prog 116 #[.slice A0 l0.length c0, .slice A1 l1.length c1] w fun e w' => ∃ v0_ : Value, e = .returned (v0_) ∧ Kd.R k36 36 w' w.heap.size (fun _ => True) v0_ r ∧ Below w.heap.size w w' := by
 have hu36 := Try.underlying36
 have HR0 := Aside0.mk hr0
 have HC0 := Aside0.mk hc0
 clear hr0 hc0
 have HR1 := Aside0.mk hr1
 have HC1 := Aside0.mk hc1
 clear hr1 hc1
 have HB := Aside0.mk (Below.refl w.heap.size w)
 have H : (spec_l12Some.l0 k l0 l1 (([] : List (S36))) 0) = some r := h
 clear h
 obtain ⟨y475, hy475⟩ : ∃ y_ : List (S36), y_ = (([] : List (S36))) := ⟨_, rfl⟩
 replace H : (spec_l12Some.l0 k l0 l1 y475 0) = some r := by first | (rw [hy475]; with_reducible exact H) | (have H2_ := (Option.bind_some _ _).symm.trans H; rw [hy475]; with_reducible exact H2_) | (have H2_ := (Option.bind_some _ _).symm.trans H; with_reducible exact H2_) | with_reducible exact H | (rw [hy475]; exact H) | exact H
 have Ny475 := Aside0.mk hy475
 clear hy475
 have H' := Aside0.mk H
 clear H
 go_enter Try.func116, Try.ntmps116
 go_wp2_with (first | ((with_reducible refine gate_dst (N := 7) rfl ?_); refine Kd.R_lit k36 _ 36 ?hg (N := 7) ?hd (xs := ([] : List (S36))) (inner := []) (ok := fun _ => True) (okp := fun _ => True) ?hr ?hp (fun _ hk => hk) trivial (Below.refl _ _) (Nat.le_refl _) (by simp) ?_; (case hd => rfl); (case hg => rfl); (case hr => first | (go_simp; done) | (go_simp; rfl)); (case hp => exact (Reps.none _ _)); intro v476 w3 ho4 hb hg_ hnew_; clear hg_ hnew_; (first | rw [← Ny475.out] at ho4 | (simp only [Int.reduceToNat] at ho4; rw [← Ny475.out] at ho4)); have n0_ := Aside0.mk (Kd.R_lower ho4 (below_size (bw_ HB.out))); have n1_ := Aside0.mk (below_step (bw_ HB.out) hb); clear HB; have HO477 := n0_; have HB := n1_; clear n0_ n1_; clear hb ho4))
 go_loopg [5, 6] k (fun kq v5 v6 w' => ∃ (x5_1 : List (S36)) (x6_1 : Int), v6 = .int .i64 x6_1 ∧ Aside0 (spec_l12Some.l0 kq l0 l1 x5_1 x6_1 = some r) ∧ Aside0 (kq ≤ k) ∧ Aside0 (Kd.R k36 36 w' w.heap.size (fun _ => True) v5 x5_1) ∧ Aside0 (Below w.heap.size w w'))
 case atStart => exact ⟨(y475), (0), (by first | rfl | (simp; done) | (simp [*]; done)), H', ⟨Nat.le_refl _⟩, ⟨by (with_reducible repeat (first | apply Kd.R_alloc | apply Kd.R_drewN | apply Kd.R_drew)); exact HO477.out⟩, ⟨by repeat (first | (with_reducible first | exact HB.out | apply below_alloc | apply pw_below_drewN | apply below_drew1) | exact HB.out)⟩⟩
 case round =>
  clear H'
  try clear c1; try clear p2
  obtain ⟨x5_1, x6_1, rfl, HA, HK1, HO_5, HB⟩ := hrel
  cases gk with
  | zero => exact absurd HA.out (by simp [spec_l12Some.l0])
  | succ k1 =>
   have H := HA.out
   clear HA
   simp only [spec_l12Some.l0] at H
   by_cases c5 : x6_1 < (l1.length : Int)
   rotate_left
   ·rw [if_neg c5] at H
    have c5b0 : decide (x6_1 < (l1.length : Int)) = false := decide_eq_false c5
    clear c5
    obtain rfl := Option.some.inj H
    go_wp2
    go_ret
    exact ⟨_, by first | rfl | (simp [errW_none, errW_some] <;> rfl) | (simp [*, errW_none, errW_some] <;> rfl), by (with_reducible repeat (first | apply Kd.R_alloc | apply Kd.R_drewN | apply Kd.R_drew)); exact HO_5.out, by repeat (first | (with_reducible first | exact HB.out | apply below_alloc | apply pw_below_drewN | apply below_drew1) | exact HB.out)⟩

   rw [if_pos c5] at H
   have c5b0 : decide (x6_1 < (l1.length : Int)) = true := decide_eq_true c5
   clear c5
   by_cases c6 : 0 ≤ x6_1
   rotate_left
   ·rw [if_neg c6] at H
    exact absurd H (by simp)
   rw [if_pos c6] at H
   have c6b0 : decide (0 ≤ x6_1) = true := decide_eq_true c6
   clear c6
   by_cases c7 : 0 ≤ (rd l1 x6_1)
   rotate_left
   ·rw [if_neg c7] at H
    exact absurd H (by simp)
   rw [if_pos c7] at H
   have c7b0 : decide (0 ≤ (rd l1 x6_1)) = true := decide_eq_true c7
   clear c7
   by_cases c8 : (rd l1 x6_1) < (l0.length : Int)
   rotate_left
   ·rw [if_neg c8] at H
    exact absurd H (by simp)
   rw [if_pos c8] at H
   have c8b0 : decide ((rd l1 x6_1) < (l0.length : Int)) = true := decide_eq_true c8
   clear c8
   by_cases c9 : x5_1.length < 4398046511104
   rotate_left
   ·rw [if_neg c9] at H
    exact absurd H (by simp)
   rw [if_pos c9] at H
   have LMc9 := Aside0.mk c9
   clear c9
   obtain ⟨y480, hy480⟩ : ∃ y_ : List (S36), y_ = (x5_1 ++ [(⟨(rd_T36 l0 (rd l1 x6_1)).f0, (rd_T36 l0 (rd l1 x6_1)).f1, (rd_T36 l0 (rd l1 x6_1)).f2, (rd_T36 l0 (rd l1 x6_1)).f3⟩ : S36)]) := ⟨_, rfl⟩
   replace H : (spec_l12Some.l0 k1 l0 l1 y480 (wrap64 (x6_1 + 1))) = some r := by first | (rw [hy480]; with_reducible exact H) | (have H2_ := (Option.bind_some _ _).symm.trans H; rw [hy480]; with_reducible exact H2_) | (have H2_ := (Option.bind_some _ _).symm.trans H; with_reducible exact H2_) | with_reducible exact H | (rw [hy480]; exact H) | exact H
   have Ny480 := Aside0.mk hy480
   clear hy480
   have H' := Aside0.mk H
   clear H
   have p478 : 0 ≤ (x6_1 : Int) := od_
   have q478 : x6_1 < (l1.length : Int) := od_
   obtain ⟨ad478, e478, hx478_0⟩ := Kd.at_int HR1.out x6_1 p478 q478
   cases e478
   replace hx478_0 := up_ HB.out hx478_0
   replace p478 := eq_true p478
   replace q478 := eq_true q478
   have p479 : 0 ≤ ((rd l1 x6_1) : Int) := od_
   have q479 : (rd l1 x6_1) < (l0.length : Int) := od_
   obtain ⟨ad479, e479, hx479_0, hx479_1, hx479_2, hx479_3⟩ := at_T36 HR0.out (rd l1 x6_1) p479 q479
   cases e479
   replace hx479_0 := up_ HB.out hx479_0
   replace hx479_1 := up_ HB.out hx479_1
   replace hx479_2 := up_ HB.out hx479_2
   replace hx479_3 := up_ HB.out hx479_3
   replace p479 := eq_true p479
   replace q479 := eq_true q479
   go_wp2_with (first | ((with_reducible refine gate_builtin (b := .append) (xs := #[.tmp 14, .tmp 22]) rfl ?_); at_builtin; refine Kd.R_append k36 (w0 := w) w.heap.size rfl (.tmp 14) (.tmp 22) 23 36 (.agg #[(.int .i64 0), (.int .i64 0), (.int .i64 0), (.int .i64 0)]) 32 rfl Try.underlying23 info36 rfl (by decide) (by omega) u5 x5_1 (⟨(rd_T36 l0 (rd l1 x6_1)).f0, (rd_T36 l0 (rd l1 x6_1)).f1, (rd_T36 l0 (rd l1 x6_1)).f2, (rd_T36 l0 (rd l1 x6_1)).f3⟩ : S36) [.int .i64 ((rd_T36 l0 (rd l1 x6_1)).f0), .int .i64 ((rd_T36 l0 (rd l1 x6_1)).f1), .int .i64 ((rd_T36 l0 (rd l1 x6_1)).f2), .int .i64 ((rd_T36 l0 (rd l1 x6_1)).f3)] (fun _ => True) (fun _ => False) rfl rfl ?aP (fun _ hk => hk.elim) ?aF ?aO ?aB ?aS ?aL ?_; (case aP => exact k36_mkM _ _ _ (⟨(rd_T36 l0 (rd l1 x6_1)).f0, (rd_T36 l0 (rd l1 x6_1)).f1, (rd_T36 l0 (rd l1 x6_1)).f2, (rd_T36 l0 (rd l1 x6_1)).f3⟩ : S36)); (case aB => exact (bw_ HB.out)); (case aF => exact (fun _ _ => trivial)); (case aO => exact (rl_ HO_5.out)); (case aS => exact (below_size (bw_ HB.out))); (case aL => have := LMc9.out; omega); intro v481 w10 ho hb hg hat; rw [← Ny480.out] at ho; have n0_ := Aside0.mk (hb); have n1_ := Aside0.mk (ho); clear HB; clear HO_5; have HB := n0_; have HO482 := n1_; clear n0_ n1_; clear ho hb hg hat))
   go_roundg k1
   case measure => have := HK1.out; omega
   case rel => exact ⟨(y480), (wrap64 (x6_1 + 1)), (by first | rfl | (simp; done) | (simp [*]; done)), H', ⟨by have := HK1.out; omega⟩, ⟨by (with_reducible repeat (first | apply Kd.R_alloc | apply Kd.R_drewN | apply Kd.R_drew)); exact HO482.out⟩, ⟨by repeat (first | (with_reducible first | exact HB.out | apply below_alloc | apply pw_below_drewN | apply below_drew1) | exact HB.out)⟩⟩
/-! ### spec_TreeFirst: function 78 -/
def spec_TreeFirst.l0 : Nat → Int → List (S36) → List Int → Int → Option (List Int × Bool)
 | 0, _, _, _, _ => none
 | k + 1, x0, x1, x6, x7 => if x7 < (x1.length : Int) then ((spec_l12Some.f k x1 x6).bind fun t487 => ((spec_l11Linked.f k x0 t487).bind fun t490 => (if 0 ≤ x7 then (if 0 ≤ ((rd_T36 x1 x7).f0) then (if ((rd_T36 x1 x7).f0) < (t490.length : Int) then (if 0 ≤ ((rd_T36 x1 x7).f1) then (if ((rd_T36 x1 x7).f1) < (t490.length : Int) then (if (rd t490 ((rd_T36 x1 x7).f0)) = (rd t490 ((rd_T36 x1 x7).f1)) then (spec_TreeFirst.l0 k x0 x1 x6 (wrap64 (x7 + 1))) else (if x6.length < 17592186044416 then (spec_TreeFirst.l0 k x0 x1 (x6 ++ [x7]) (wrap64 (x7 + 1))) else (none))) else (none)) else (none)) else (none)) else (none)) else (none)))) else (some (x6, true))
def spec_TreeFirst.f (k : Nat) (a0 : Int) (l1 : List (S36)) : Option (List Int × Bool) := (some (([] : List Int) : List Int)).bind fun y483 => ((spec_NetWhole.f k a0 l1).bind fun t486 => (if t486 = true then (spec_TreeFirst.l0 k a0 l1 y483 0) else (some (y483, false))))
set_option maxHeartbeats 8000000 in
set_option maxRecDepth 100000 in
theorem spec_TreeFirst.calls (k : Nat) (a0 : Int) (A1 : Option Addr) (c1 : Nat) (l1 : List (S36)) (r1 : List Int) (r2 : Bool) (w : World) (hr1 : Kd.C k36 w A1 l1.length l1) (hc1 : l1.length ≤ c1) (h : spec_TreeFirst.f k a0 l1 = some (r1, r2)) :
  Calls Try.prog 78 #[.int .i64 a0, .slice A1 l1.length c1] w fun e w' => ∃ v0_ : Value, e = .returned (.tuple #[v0_, .bool r2]) ∧ Kd.R (Kd.int .i64) 3 w' w.heap.size (fun _ => True) v0_ r1 ∧ Below w.heap.size w w' := by
 have HR1 := Aside0.mk hr1
 have HC1 := Aside0.mk hc1
 clear hr1 hc1
 have HB := Aside0.mk (Below.refl w.heap.size w)
 have H : ((some (([] : List Int) : List Int)).bind fun y483 => ((spec_NetWhole.f k a0 l1).bind fun t486 => (if t486 = true then (spec_TreeFirst.l0 k a0 l1 y483 0) else (some (y483, false))))) = some (r1, r2) := h
 clear h
 obtain ⟨y483, hy483⟩ : ∃ y_ : List Int, y_ = (([] : List Int)) := ⟨_, rfl⟩
 replace H : ((spec_NetWhole.f k a0 l1).bind fun t486 => (if t486 = true then (spec_TreeFirst.l0 k a0 l1 y483 0) else (some (y483, false)))) = some (r1, r2) := by first | (rw [hy483]; with_reducible exact H) | (have H2_ := (Option.bind_some _ _).symm.trans H; rw [hy483]; with_reducible exact H2_) | (have H2_ := (Option.bind_some _ _).symm.trans H; with_reducible exact H2_) | with_reducible exact H | (rw [hy483]; exact H) | exact H
 have Ny483 := Aside0.mk hy483
 clear hy483
 replace H := Option.bind_eq_some_iff.mp H
 obtain ⟨t486, A30, H⟩ := H
 replace H : (if t486 = true then (spec_TreeFirst.l0 k a0 l1 y483 0) else (some (y483, false))) = some (r1, r2) := H
 have A3 := Aside0.mk A30
 clear A30
 by_cases c4 : t486 = true
 rotate_left
 ·replace c4 := Bool.eq_false_iff.mpr c4
  subst c4
  have H1 : (some (y483, false)) = some (r1, r2) := by rw [if_neg (show ¬ (false = true) by decide)] at H; exact H
  clear H
  have H := H1
  clear H1
  simp only [Option.some.injEq, Prod.mk.injEq] at H
  obtain ⟨rfl, rfl⟩ := H
  go_enter Try.func78, Try.ntmps78
  go_wp2_with (first | ((with_reducible refine gate_dst (N := 9) rfl ?_); refine Kd.R_lit (Kd.int .i64) _ 3 ?hg (N := 9) ?hd (xs := ([] : List Int)) (inner := []) (ok := fun _ => True) (okp := fun _ => True) ?hr ?hp (fun _ hk => hk) trivial (Below.refl _ _) (Nat.le_refl _) (by simp) ?_; (case hd => rfl); (case hg => rfl); (case hr => first | (go_simp; done) | (go_simp; rfl)); (case hp => exact (Reps.none _ _)); intro v484 w29 ho30 hb hg_ hnew_; clear hg_ hnew_; (first | rw [← Ny483.out] at ho30 | (simp only [Int.reduceToNat] at ho30; rw [← Ny483.out] at ho30)); have n0_ := Aside0.mk (Kd.R_lower ho30 (below_size (bw_ HB.out))); have n1_ := Aside0.mk (below_step (bw_ HB.out) hb); clear HB; have HO485 := n0_; have HB := n1_; clear n0_ n1_; clear hb ho30) | (go_at_call 64; (with_reducible refine (spec_NetWhole.calls k a0 _ _ l1 false _ ?side1 ?side2 A3.out).mono ?_); (case side1 => exact cl_ (Kd.C_below HR1.out HB.out)); (case side2 => exact HC1.out); rintro e w31 ⟨rfl, hb⟩; have n0_ := Aside0.mk (Kd.R_below (rl_ HO485.out) hb); have n1_ := Aside0.mk (below_step (bw_ HB.out) hb); clear HO485; clear HB; have HO485 := n0_; have HB := n1_; clear n0_ n1_; (try clear hb); (try clear hb2); (try clear hk); (try clear hi)) | (go_quiet (fail)))
  go_ret2
  exact ⟨_, by first | rfl | (simp [errW_none, errW_some] <;> rfl) | (simp [*, errW_none, errW_some] <;> rfl), by (with_reducible repeat (first | apply Kd.R_alloc | apply Kd.R_drewN | apply Kd.R_drew)); exact HO485.out, by repeat (first | (with_reducible first | exact HB.out | apply below_alloc | apply pw_below_drewN | apply below_drew1) | exact HB.out)⟩

 subst c4
 have H1 : (spec_TreeFirst.l0 k a0 l1 y483 0) = some (r1, r2) := by rw [if_pos rfl] at H; exact H
 clear H
 have H := H1
 clear H1
 have H' := Aside0.mk H
 clear H
 go_enter Try.func78, Try.ntmps78
 go_wp2_with (first | ((with_reducible refine gate_dst (N := 9) rfl ?_); refine Kd.R_lit (Kd.int .i64) _ 3 ?hg (N := 9) ?hd (xs := ([] : List Int)) (inner := []) (ok := fun _ => True) (okp := fun _ => True) ?hr ?hp (fun _ hk => hk) trivial (Below.refl _ _) (Nat.le_refl _) (by simp) ?_; (case hd => rfl); (case hg => rfl); (case hr => first | (go_simp; done) | (go_simp; rfl)); (case hp => exact (Reps.none _ _)); intro v484 w5 ho6 hb hg_ hnew_; clear hg_ hnew_; (first | rw [← Ny483.out] at ho6 | (simp only [Int.reduceToNat] at ho6; rw [← Ny483.out] at ho6)); have n0_ := Aside0.mk (Kd.R_lower ho6 (below_size (bw_ HB.out))); have n1_ := Aside0.mk (below_step (bw_ HB.out) hb); clear HB; have HO485 := n0_; have HB := n1_; clear n0_ n1_; clear hb ho6) | (go_at_call 64; (with_reducible refine (spec_NetWhole.calls k a0 _ _ l1 true _ ?side1 ?side2 A3.out).mono ?_); (case side1 => exact cl_ (Kd.C_below HR1.out HB.out)); (case side2 => exact HC1.out); rintro e w7 ⟨rfl, hb⟩; have n0_ := Aside0.mk (Kd.R_below (rl_ HO485.out) hb); have n1_ := Aside0.mk (below_step (bw_ HB.out) hb); clear HO485; clear HB; have HO485 := n0_; have HB := n1_; clear n0_ n1_; (try clear hb); (try clear hb2); (try clear hk); (try clear hi)) | (go_quiet (fail)))
 go_loopg [6, 7] k (fun kq v6 v7 w' => ∃ (x6_1 : List Int) (x7_1 : Int), v7 = .int .i64 x7_1 ∧ Aside0 (spec_TreeFirst.l0 kq a0 l1 x6_1 x7_1 = some (r1, r2)) ∧ Aside0 (kq ≤ k) ∧ Aside0 (Kd.R (Kd.int .i64) 3 w' w.heap.size (fun _ => True) v6 x6_1) ∧ Aside0 (Below w.heap.size w w'))
 case atStart => exact ⟨(y483), (0), (by first | rfl | (simp; done) | (simp [*]; done)), H', ⟨Nat.le_refl _⟩, ⟨by (with_reducible repeat (first | apply Kd.R_alloc | apply Kd.R_drewN | apply Kd.R_drew)); exact HO485.out⟩, ⟨by repeat (first | (with_reducible first | exact HB.out | apply below_alloc | apply pw_below_drewN | apply below_drew1) | exact HB.out)⟩⟩
 case round =>
  clear H'
  try clear c1; try clear p2; try clear c4; try clear c7
  obtain ⟨x6_1, x7_1, rfl, HA, HK1, HO_6, HB⟩ := hrel
  cases gk with
  | zero => exact absurd HA.out (by simp [spec_TreeFirst.l0])
  | succ k1 =>
   have H := HA.out
   clear HA
   simp only [spec_TreeFirst.l0] at H
   by_cases c8 : x7_1 < (l1.length : Int)
   rotate_left
   ·rw [if_neg c8] at H
    have c8b0 : decide (x7_1 < (l1.length : Int)) = false := decide_eq_false c8
    clear c8
    simp only [Option.some.injEq, Prod.mk.injEq] at H
    obtain ⟨rfl, rfl⟩ := H
    go_wp2
    repeat (go_quiet (fail); try go_wp2)
    go_ret2
    exact ⟨_, by first | rfl | (simp [errW_none, errW_some] <;> rfl) | (simp [*, errW_none, errW_some] <;> rfl), by (with_reducible repeat (first | apply Kd.R_alloc | apply Kd.R_drewN | apply Kd.R_drew)); exact HO_6.out, by repeat (first | (with_reducible first | exact HB.out | apply below_alloc | apply pw_below_drewN | apply below_drew1) | exact HB.out)⟩
   rw [if_pos c8] at H
   have c8b0 : decide (x7_1 < (l1.length : Int)) = true := decide_eq_true c8
   clear c8
   replace H := Option.bind_eq_some_iff.mp H
   obtain ⟨t487, A90, H⟩ := H
   replace H : ((spec_l11Linked.f k1 a0 t487).bind fun t490 => (if 0 ≤ x7_1 then (if 0 ≤ ((rd_T36 l1 x7_1).f0) then (if ((rd_T36 l1 x7_1).f0) < (t490.length : Int) then (if 0 ≤ ((rd_T36 l1 x7_1).f1) then (if ((rd_T36 l1 x7_1).f1) < (t490.length : Int) then (if (rd t490 ((rd_T36 l1 x7_1).f0)) = (rd t490 ((rd_T36 l1 x7_1).f1)) then (spec_TreeFirst.l0 k1 a0 l1 x6_1 (wrap64 (x7_1 + 1))) else (if x6_1.length < 17592186044416 then (spec_TreeFirst.l0 k1 a0 l1 (x6_1 ++ [x7_1]) (wrap64 (x7_1 + 1))) else (none))) else (none)) else (none)) else (none)) else (none)) else (none))) = some (r1, r2) := H
   have A9 := Aside0.mk A90
   clear A90
   replace H := Option.bind_eq_some_iff.mp H
   obtain ⟨t490, A100, H⟩ := H
   replace H : (if 0 ≤ x7_1 then (if 0 ≤ ((rd_T36 l1 x7_1).f0) then (if ((rd_T36 l1 x7_1).f0) < (t490.length : Int) then (if 0 ≤ ((rd_T36 l1 x7_1).f1) then (if ((rd_T36 l1 x7_1).f1) < (t490.length : Int) then (if (rd t490 ((rd_T36 l1 x7_1).f0)) = (rd t490 ((rd_T36 l1 x7_1).f1)) then (spec_TreeFirst.l0 k1 a0 l1 x6_1 (wrap64 (x7_1 + 1))) else (if x6_1.length < 17592186044416 then (spec_TreeFirst.l0 k1 a0 l1 (x6_1 ++ [x7_1]) (wrap64 (x7_1 + 1))) else (none))) else (none)) else (none)) else (none)) else (none)) else (none)) = some (r1, r2) := H
   have A10 := Aside0.mk A100
   clear A100
   by_cases c11 : 0 ≤ x7_1
   rotate_left
   ·rw [if_neg c11] at H
    exact absurd H (by simp)
   rw [if_pos c11] at H
   have c11b0 : decide (0 ≤ x7_1) = true := decide_eq_true c11
   clear c11
   by_cases c12 : 0 ≤ ((rd_T36 l1 x7_1).f0)
   rotate_left
   ·rw [if_neg c12] at H
    exact absurd H (by simp)
   rw [if_pos c12] at H
   have c12b0 : decide (0 ≤ ((rd_T36 l1 x7_1).f0)) = true := decide_eq_true c12
   clear c12
   by_cases c13 : ((rd_T36 l1 x7_1).f0) < (t490.length : Int)
   rotate_left
   ·rw [if_neg c13] at H
    exact absurd H (by simp)
   rw [if_pos c13] at H
   have c13b0 : decide (((rd_T36 l1 x7_1).f0) < (t490.length : Int)) = true := decide_eq_true c13
   clear c13
   by_cases c14 : 0 ≤ ((rd_T36 l1 x7_1).f1)
   rotate_left
   ·rw [if_neg c14] at H
    exact absurd H (by simp)
   rw [if_pos c14] at H
   have c14b0 : decide (0 ≤ ((rd_T36 l1 x7_1).f1)) = true := decide_eq_true c14
   clear c14
   by_cases c15 : ((rd_T36 l1 x7_1).f1) < (t490.length : Int)
   rotate_left
   ·rw [if_neg c15] at H
    exact absurd H (by simp)
   rw [if_pos c15] at H
   have c15b0 : decide (((rd_T36 l1 x7_1).f1) < (t490.length : Int)) = true := decide_eq_true c15
   clear c15
   by_cases c16 : (rd t490 ((rd_T36 l1 x7_1).f0)) = (rd t490 ((rd_T36 l1 x7_1).f1))
   ·rw [if_pos c16] at H
    have c16b0 : ((rd t490 ((rd_T36 l1 x7_1).f0)) == (rd t490 ((rd_T36 l1 x7_1).f1))) = true := beq_iff_eq.mpr c16
    have c16b1 : ((rd t490 ((rd_T36 l1 x7_1).f0)) != (rd t490 ((rd_T36 l1 x7_1).f1))) = false := bne_eq_false_iff_eq.mpr c16
    clear c16
    have H' := Aside0.mk H
    clear H
    obtain ⟨Ao17, co17, eo17⟩ := Kd.R_slice HO_6.out
    subst eo17
    go_wp2_with (first | (go_at_call 116; (with_reducible refine (spec_l12Some.calls k1 _ _ l1 _ _ x6_1 t487 _ ?side1 ?side2 ?side3 ?side4 A9.out).mono ?_); (case side1 => exact cl_ (Kd.C_below HR1.out HB.out)); (case side2 => exact HC1.out); (case side3 => exact cl_ (Kd.R_reads' HO_6.out).2.2); (case side4 => exact (Kd.R_reads' HO_6.out).2.1); rintro e w18 ⟨v488, rfl, ho0, hb⟩; have n0_ := Aside0.mk (Kd.R_below (rl_ HO_6.out) hb); have n1_ := Aside0.mk (Kd.R_lower ho0 (below_size (bw_ HB.out))); have n2_ := Aside0.mk (below_step (bw_ HB.out) hb); clear HO_6; clear HB; have HO_6 := n0_; have HO489 := n1_; have HB := n2_; clear n0_ n1_ n2_; (try clear hb); (try clear hb2); (try clear hk); (try clear hi); (try clear ho0); obtain ⟨Ao19, co19, eo19⟩ := Kd.R_slice HO489.out; subst eo19) | (go_at_call 115; (with_reducible refine (spec_l11Linked.calls k1 a0 _ _ t487 t490 _ ?side1 ?side2 A10.out).mono ?_); (case side1 => exact cl_ (Kd.R_reads' HO489.out).2.2); (case side2 => exact (Kd.R_reads' HO489.out).2.1); rintro e w20 ⟨v491, rfl, ho0, hb⟩; have n0_ := Aside0.mk (Kd.R_elder' (rl_ HO_6.out) (Kd.R_base ho0) hb); have n1_ := Aside0.mk (Kd.R_below (rl_ HO489.out) hb); have n2_ := Aside0.mk (Kd.R_lower (Kd.R_new' ho0 (Kd.R_lt (rl_ HO_6.out))) (below_size (bw_ HB.out))); have n3_ := Aside0.mk (below_step (bw_ HB.out) hb); clear HO_6; clear HO489; clear HB; have HO_6 := n0_; have HO489 := n1_; have HO492 := n2_; have HB := n3_; clear n0_ n1_ n2_ n3_; (try clear hb); (try clear hb2); (try clear hk); (try clear hi); (try clear ho0); have p493 : 0 ≤ (x7_1 : Int) := od_; have q493 : x7_1 < (l1.length : Int) := od_; obtain ⟨ad493, e493, hx493_0, hx493_1, hx493_2, hx493_3⟩ := at_T36 HR1.out x7_1 p493 q493; cases e493; replace hx493_0 := up_ HB.out hx493_0; replace hx493_1 := up_ HB.out hx493_1; replace hx493_2 := up_ HB.out hx493_2; replace hx493_3 := up_ HB.out hx493_3; replace p493 := eq_true p493; replace q493 := eq_true q493; obtain ⟨Ao21, co21, eo21⟩ := Kd.R_slice HO492.out; subst eo21; have p494 : 0 ≤ (((rd_T36 l1 x7_1).f0) : Int) := od_; have q494 : ((rd_T36 l1 x7_1).f0) < (t490.length : Int) := od_; obtain ⟨ad494, e494, hx494_0⟩ := Kd.at_int (Kd.R_reads' HO492.out).2.2 ((rd_T36 l1 x7_1).f0) p494 q494; cases e494; replace p494 := eq_true p494; replace q494 := eq_true q494; have p495 : 0 ≤ (x7_1 : Int) := od_; have q495 : x7_1 < (l1.length : Int) := od_; obtain ⟨ad495, e495, hx495_0, hx495_1, hx495_2, hx495_3⟩ := at_T36 HR1.out x7_1 p495 q495; obtain rfl : ad493 = ad495 := (by injection e495); replace hx495_0 := up_ HB.out hx495_0; replace hx495_1 := up_ HB.out hx495_1; replace hx495_2 := up_ HB.out hx495_2; replace hx495_3 := up_ HB.out hx495_3; replace p495 := eq_true p495; replace q495 := eq_true q495; have p496 : 0 ≤ (((rd_T36 l1 x7_1).f1) : Int) := od_; have q496 : ((rd_T36 l1 x7_1).f1) < (t490.length : Int) := od_; obtain ⟨ad496, e496, hx496_0⟩ := Kd.at_int (Kd.R_reads' HO492.out).2.2 ((rd_T36 l1 x7_1).f1) p496 q496; obtain rfl : ad494 = ad496 := (by injection e496); replace p496 := eq_true p496; replace q496 := eq_true q496) | (go_quiet (fail)))
    go_roundg k1
    case measure => have := HK1.out; omega
    case rel => exact ⟨(x6_1), (wrap64 (x7_1 + 1)), (by first | rfl | (simp; done) | (simp [*]; done)), H', ⟨by have := HK1.out; omega⟩, ⟨by (with_reducible repeat (first | apply Kd.R_alloc | apply Kd.R_drewN | apply Kd.R_drew)); exact Kd.R_mono HO_6.out (fun _ hk => trivial)⟩, ⟨by repeat (first | (with_reducible first | exact HB.out | apply below_alloc | apply pw_below_drewN | apply below_drew1) | exact HB.out)⟩⟩
   rw [if_neg c16] at H
   have c16b0 : ((rd t490 ((rd_T36 l1 x7_1).f0)) == (rd t490 ((rd_T36 l1 x7_1).f1))) = false := beq_eq_false_iff_ne.mpr c16
   have c16b1 : ((rd t490 ((rd_T36 l1 x7_1).f0)) != (rd t490 ((rd_T36 l1 x7_1).f1))) = true := bne_iff_ne.mpr c16
   by_cases c22 : x6_1.length < 17592186044416
   rotate_left
   ·rw [if_neg c22] at H
    exact absurd H (by simp)
   rw [if_pos c22] at H
   have LMc22 := Aside0.mk c22
   clear c22
   obtain ⟨y497, hy497⟩ : ∃ y_ : List Int, y_ = (x6_1 ++ [x7_1]) := ⟨_, rfl⟩
   replace H : (spec_TreeFirst.l0 k1 a0 l1 y497 (wrap64 (x7_1 + 1))) = some (r1, r2) := by first | (rw [hy497]; with_reducible exact H) | (have H2_ := (Option.bind_some _ _).symm.trans H; rw [hy497]; with_reducible exact H2_) | (have H2_ := (Option.bind_some _ _).symm.trans H; with_reducible exact H2_) | with_reducible exact H | (rw [hy497]; exact H) | exact H
   have Ny497 := Aside0.mk hy497
   clear hy497
   have H' := Aside0.mk H
   clear H
   obtain ⟨Ao23, co23, eo23⟩ := Kd.R_slice HO_6.out
   subst eo23
   go_wp2_with (first | (go_at_call 116; (with_reducible refine (spec_l12Some.calls k1 _ _ l1 _ _ x6_1 t487 _ ?side1 ?side2 ?side3 ?side4 A9.out).mono ?_); (case side1 => exact cl_ (Kd.C_below HR1.out HB.out)); (case side2 => exact HC1.out); (case side3 => exact cl_ (Kd.R_reads' HO_6.out).2.2); (case side4 => exact (Kd.R_reads' HO_6.out).2.1); rintro e w24 ⟨v488, rfl, ho0, hb⟩; have n0_ := Aside0.mk (Kd.R_below (rl_ HO_6.out) hb); have n1_ := Aside0.mk (Kd.R_lower ho0 (below_size (bw_ HB.out))); have n2_ := Aside0.mk (below_step (bw_ HB.out) hb); clear HO_6; clear HB; have HO_6 := n0_; have HO489 := n1_; have HB := n2_; clear n0_ n1_ n2_; (try clear hb); (try clear hb2); (try clear hk); (try clear hi); (try clear ho0); obtain ⟨Ao25, co25, eo25⟩ := Kd.R_slice HO489.out; subst eo25) | (go_at_call 115; (with_reducible refine (spec_l11Linked.calls k1 a0 _ _ t487 t490 _ ?side1 ?side2 A10.out).mono ?_); (case side1 => exact cl_ (Kd.R_reads' HO489.out).2.2); (case side2 => exact (Kd.R_reads' HO489.out).2.1); rintro e w26 ⟨v491, rfl, ho0, hb⟩; have n0_ := Aside0.mk (Kd.R_elder' (rl_ HO_6.out) (Kd.R_base ho0) hb); have n1_ := Aside0.mk (Kd.R_below (rl_ HO489.out) hb); have n2_ := Aside0.mk (Kd.R_lower (Kd.R_new' ho0 (Kd.R_lt (rl_ HO_6.out))) (below_size (bw_ HB.out))); have n3_ := Aside0.mk (below_step (bw_ HB.out) hb); clear HO_6; clear HO489; clear HB; have HO_6 := n0_; have HO489 := n1_; have HO492 := n2_; have HB := n3_; clear n0_ n1_ n2_ n3_; (try clear hb); (try clear hb2); (try clear hk); (try clear hi); (try clear ho0); have p493 : 0 ≤ (x7_1 : Int) := od_; have q493 : x7_1 < (l1.length : Int) := od_; obtain ⟨ad493, e493, hx493_0, hx493_1, hx493_2, hx493_3⟩ := at_T36 HR1.out x7_1 p493 q493; cases e493; replace hx493_0 := up_ HB.out hx493_0; replace hx493_1 := up_ HB.out hx493_1; replace hx493_2 := up_ HB.out hx493_2; replace hx493_3 := up_ HB.out hx493_3; replace p493 := eq_true p493; replace q493 := eq_true q493; obtain ⟨Ao27, co27, eo27⟩ := Kd.R_slice HO492.out; subst eo27; have p494 : 0 ≤ (((rd_T36 l1 x7_1).f0) : Int) := od_; have q494 : ((rd_T36 l1 x7_1).f0) < (t490.length : Int) := od_; obtain ⟨ad494, e494, hx494_0⟩ := Kd.at_int (Kd.R_reads' HO492.out).2.2 ((rd_T36 l1 x7_1).f0) p494 q494; cases e494; replace p494 := eq_true p494; replace q494 := eq_true q494; have p495 : 0 ≤ (x7_1 : Int) := od_; have q495 : x7_1 < (l1.length : Int) := od_; obtain ⟨ad495, e495, hx495_0, hx495_1, hx495_2, hx495_3⟩ := at_T36 HR1.out x7_1 p495 q495; obtain rfl : ad493 = ad495 := (by injection e495); replace hx495_0 := up_ HB.out hx495_0; replace hx495_1 := up_ HB.out hx495_1; replace hx495_2 := up_ HB.out hx495_2; replace hx495_3 := up_ HB.out hx495_3; replace p495 := eq_true p495; replace q495 := eq_true q495; have p496 : 0 ≤ (((rd_T36 l1 x7_1).f1) : Int) := od_; have q496 : ((rd_T36 l1 x7_1).f1) < (t490.length : Int) := od_; obtain ⟨ad496, e496, hx496_0⟩ := Kd.at_int (Kd.R_reads' HO492.out).2.2 ((rd_T36 l1 x7_1).f1) p496 q496; obtain rfl : ad494 = ad496 := (by injection e496); replace p496 := eq_true p496; replace q496 := eq_true q496) | ((with_reducible refine gate_builtin (b := .append) (xs := #[.tmp 43, .tmp 45]) rfl ?_); at_builtin; refine Kd.R_append (Kd.int .i64) (w0 := w) w.heap.size rfl (.tmp 43) (.tmp 45) 26 3 (.int .i64 0) 8 rfl Try.underlying26 info3 rfl (by decide) (by omega) (.slice Ao23 x6_1.length co23) x6_1 x7_1 [.int .i64 x7_1] (fun k_ => some k_ ≠ (.slice (some ad494) t490.length co27 : Value).ownBlock) (fun _ => False) rfl rfl ?aP (fun _ hk => hk.elim) ?aF ?aO ?aB ?aS ?aL ?_; (case aP => exact rfl); (case aB => exact (bw_ HB.out)); (case aF => exact (fun k_ hk => Kd.fresh' (Kd.R_lt (rl_ HO492.out)) k_ hk)); (case aO => exact (by (with_reducible repeat (first | apply Kd.R_alloc | apply Kd.R_drewN | apply Kd.R_drew)); exact Kd.R_mono HO_6.out (fun _ hk => hk.2))); (case aS => exact (below_size (bw_ HB.out))); (case aL => have := LMc22.out; omega); intro v498 w28 ho hb hg hat; rw [← Ny497.out] at ho; have n0_ := Aside0.mk (Kd.R_over' (rl_ HO489.out) (Kd.R_typed (rl_ HO_6.out)) (by decide) hg); have n1_ := Aside0.mk (Kd.R_after (ok := (fun _ => True)) (rl_ HO492.out) hg hat); have n2_ := Aside0.mk (hb); have n3_ := Aside0.mk (ho); clear HO489; clear HO492; clear HB; clear HO_6; have HO489 := n0_; have HO492 := n1_; have HB := n2_; have HO499 := n3_; clear n0_ n1_ n2_ n3_; clear ho hb hg hat) | (go_quiet (fail)))
   go_roundg k1
   case measure => have := HK1.out; omega
   case rel => exact ⟨(y497), (wrap64 (x7_1 + 1)), (by first | rfl | (simp; done) | (simp [*]; done)), H', ⟨by have := HK1.out; omega⟩, ⟨by (with_reducible repeat (first | apply Kd.R_alloc | apply Kd.R_drewN | apply Kd.R_drew)); exact Kd.R_mono HO499.out (fun _ hk => trivial)⟩, ⟨by repeat (first | (with_reducible first | exact HB.out | apply below_alloc | apply pw_below_drewN | apply below_drew1) | exact HB.out)⟩⟩
end Go.Proofs.Ytbnndmkkmceenaa.P0
