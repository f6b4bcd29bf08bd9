-- squeezed
-- dedented
-- Written by a program (wip/tools/mkprint.py) over the kit's print.
import Derived.Test.YtbnndmkkmceenaaP0x0
import Derived.Test.YtbnndmkkmceenaaP0x3
namespace Go.Proofs.Ytbnndmkkmceenaa.P0
open Go.RowKit Go.Proofs.Ytbnndmkkmceenaa.Hand Go.Proofs.YtbnndmkkmceenaaW.PrintWords Go.Proofs.YtbnndmkkmceenaaW.PrintLast
set_option linter.unusedVariables false
set_option linter.unusedSimpArgs false

/-! ### spec_l11Linked: function 115 -/
mutual
def spec_l11Linked.l0 : Nat → Int → List (S36) → List Int → Int → Option (List Int)
 | 0, _, _, _, _ => none
 | k + 1, x0, x1, x5, x6 => if x6 < x0 then (if x5.length < 17592186044416 then (spec_l11Linked.l0 k x0 x1 (x5 ++ [x6]) (wrap64 (x6 + 1))) else (none)) else (spec_l11Linked.l1 k x0 x1 x5 0)
def spec_l11Linked.l1 : Nat → Int → List (S36) → List Int → Int → Option (List Int)
 | 0, _, _, _, _ => none
 | k + 1, x0, x1, x5, x7 => if x7 < x0 then (spec_l11Linked.l2 k x0 x1 x5 x7 0) else (some x5)
def spec_l11Linked.l2 : Nat → Int → List (S36) → List Int → Int → Int → Option (List Int)
 | 0, _, _, _, _, _ => none
 | k + 1, x0, x1, x5, x7, x8 => if x8 < (x1.length : Int) then (if 0 ≤ x8 then (if 0 ≤ ((rd_T36 x1 x8).f0) then (if ((rd_T36 x1 x8).f0) < (x5.length : Int) then (if 0 ≤ ((rd_T36 x1 x8).f1) then (if ((rd_T36 x1 x8).f1) < (x5.length : Int) then (spec_l11Linked.l2 k x0 x1 ((x5.set (((rd_T36 x1 x8).f0) : Int).toNat (mn (rd x5 ((rd_T36 x1 x8).f0)) (rd x5 ((rd_T36 x1 x8).f1)))).set (((rd_T36 x1 x8).f1) : Int).toNat (mn (rd x5 ((rd_T36 x1 x8).f0)) (rd x5 ((rd_T36 x1 x8).f1)))) x7 (wrap64 (x8 + 1))) else (none)) else (none)) else (none)) else (none)) else (none)) else (spec_l11Linked.l1 k x0 x1 x5 (wrap64 (x7 + 1)))
end
def spec_l11Linked.f (k : Nat) (a0 : Int) (l1 : List (S36)) : Option (List Int) := spec_l11Linked.l0 k a0 l1 (([] : List Int)) 0
set_option maxHeartbeats 8000000 in
set_option maxRecDepth 100000 in
theorem spec_l11Linked.calls (k : Nat) (a0 : Int) (A1 : Option Addr) (c1 : Nat) (l1 : List (S36)) (r : List Int) (w : World) (hr1 : Kd.C k36 w A1 l1.length l1) (hc1 : l1.length ≤ c1) (h : spec_l11Linked.f k a0 l1 = some r) :
  Calls Try.prog 115 #[.int .i64 a0, .slice A1 l1.length c1] w fun e w' => ∃ v0_ : Value, e = .returned (v0_) ∧ Kd.R (Kd.int .i64) 3 w' w.heap.size (fun _ => True) v0_ r ∧ Below w.heap.size w w' := by
 have HR1 := Aside0.mk hr1
 have HC1 := Aside0.mk hc1
 clear hr1 hc1
 have HB := Aside0.mk (Below.refl w.heap.size w)
 have H : (spec_l11Linked.l0 k a0 l1 (([] : List Int)) 0) = some r := h
 clear h
 obtain ⟨y450, hy450⟩ : ∃ y_ : List Int, y_ = (([] : List Int)) := ⟨_, rfl⟩
 replace H : (spec_l11Linked.l0 k a0 l1 y450 0) = some r := by first | (rw [hy450]; with_reducible exact H) | (have H2_ := (Option.bind_some _ _).symm.trans H; rw [hy450]; with_reducible exact H2_) | (have H2_ := (Option.bind_some _ _).symm.trans H; with_reducible exact H2_) | with_reducible exact H | (rw [hy450]; exact H) | exact H
 have Ny450 := Aside0.mk hy450
 clear hy450
 have H' := Aside0.mk H
 clear H
 go_enter Try.func115, Try.ntmps115
 go_wp2_with (first | ((with_reducible refine gate_dst (N := 10) rfl ?_); refine Kd.R_lit (Kd.int .i64) _ 3 ?hg (N := 10) ?hd (xs := ([] : List Int)) (inner := []) (ok := fun _ => True) (okp := fun _ => True) ?hr ?hp (fun _ hk => hk) trivial (Below.refl _ _) (Nat.le_refl _) (by simp) ?_; (case hd => rfl); (case hg => rfl); (case hr => first | (go_simp; done) | (go_simp; rfl)); (case hp => exact (Reps.none _ _)); intro v451 w3 ho4 hb hg_ hnew_; clear hg_ hnew_; (first | rw [← Ny450.out] at ho4 | (simp only [Int.reduceToNat] at ho4; rw [← Ny450.out] at ho4)); have n0_ := Aside0.mk (Kd.R_lower ho4 (below_size (bw_ HB.out))); have n1_ := Aside0.mk (below_step (bw_ HB.out) hb); clear HB; have HO452 := n0_; have HB := n1_; clear n0_ n1_; clear hb ho4) | (go_quiet (fail)))
 go_loopg [5, 6] k (fun kq v5 v6 w' => ∃ (x5_1 : List Int) (x6_1 : Int), v6 = .int .i64 x6_1 ∧ Aside0 (spec_l11Linked.l0 kq a0 l1 x5_1 x6_1 = some r) ∧ Aside0 (kq ≤ k) ∧ Aside0 (Kd.R (Kd.int .i64) 3 w' w.heap.size (fun _ => True) v5 x5_1) ∧ Aside0 (Below w.heap.size w w'))
 case atStart => exact ⟨(y450), (0), (by first | rfl | (simp; done) | (simp [*]; done)), H', ⟨Nat.le_refl _⟩, ⟨by (with_reducible repeat (first | apply Kd.R_alloc | apply Kd.R_drewN | apply Kd.R_drew)); exact HO452.out⟩, ⟨by repeat (first | (with_reducible first | exact HB.out | apply below_alloc | apply pw_below_drewN | apply below_drew1) | exact HB.out)⟩⟩
 case round =>
  clear H'
  try clear c1; try clear p2
  obtain ⟨x5_1, x6_1, rfl, HA, HK1, HO_5, HB⟩ := hrel
  cases gk with
  | zero => exact absurd HA.out (by simp [spec_l11Linked.l0])
  | succ k1 =>
   have H := HA.out
   clear HA
   simp only [spec_l11Linked.l0] at H
   by_cases c5 : x6_1 < a0
   ·rw [if_pos c5] at H
    have c5b0 : decide (x6_1 < a0) = true := decide_eq_true c5
    clear c5
    by_cases c6 : x5_1.length < 17592186044416
    ·rw [if_pos c6] at H
     have LMc6 := Aside0.mk c6
     clear c6
     obtain ⟨y453, hy453⟩ : ∃ y_ : List Int, y_ = (x5_1 ++ [x6_1]) := ⟨_, rfl⟩
     replace H : (spec_l11Linked.l0 k1 a0 l1 y453 (wrap64 (x6_1 + 1))) = some r := by first | (rw [hy453]; with_reducible exact H) | (have H2_ := (Option.bind_some _ _).symm.trans H; rw [hy453]; with_reducible exact H2_) | (have H2_ := (Option.bind_some _ _).symm.trans H; with_reducible exact H2_) | with_reducible exact H | (rw [hy453]; exact H) | exact H
     have Ny453 := Aside0.mk hy453
     clear hy453
     have H' := Aside0.mk H
     clear H
     go_wp2_with (first | ((with_reducible refine gate_builtin (b := .append) (xs := #[.tmp 16, .tmp 18]) rfl ?_); at_builtin; refine Kd.R_append (Kd.int .i64) (w0 := w) w.heap.size rfl (.tmp 16) (.tmp 18) 26 3 (.int .i64 0) 8 rfl Try.underlying26 info3 rfl (by decide) (by omega) u5 x5_1 x6_1 [.int .i64 x6_1] (fun _ => True) (fun _ => False) rfl rfl ?aP (fun _ hk => hk.elim) ?aF ?aO ?aB ?aS ?aL ?_; (case aP => exact rfl); (case aB => exact (bw_ HB.out)); (case aF => exact (fun _ _ => trivial)); (case aO => exact (rl_ HO_5.out)); (case aS => exact (below_size (bw_ HB.out))); (case aL => have := LMc6.out; omega); intro v454 w7 ho hb hg hat; rw [← Ny453.out] at ho; have n0_ := Aside0.mk (hb); have n1_ := Aside0.mk (ho); clear HB; clear HO_5; have HB := n0_; have HO455 := n1_; clear n0_ n1_; clear ho hb hg hat) | (go_quiet (fail)))
     go_roundg k1
     case measure => have := HK1.out; omega
     case rel => exact ⟨(y453), (wrap64 (x6_1 + 1)), (by first | rfl | (simp; done) | (simp [*]; done)), H', ⟨by have := HK1.out; omega⟩, ⟨by (with_reducible repeat (first | apply Kd.R_alloc | apply Kd.R_drewN | apply Kd.R_drew)); exact HO455.out⟩, ⟨by repeat (first | (with_reducible first | exact HB.out | apply below_alloc | apply pw_below_drewN | apply below_drew1) | exact HB.out)⟩⟩
    rw [if_neg c6] at H
    exact absurd H (by simp)
   rw [if_neg c5] at H
   have c5b0 : decide (x6_1 < a0) = false := decide_eq_false c5
   clear c5
   have H' := Aside0.mk H
   clear H
   go_wp2
   repeat (go_quiet (fail); try go_wp2)
   go_loopg [7] k1 (fun kq v7 w' => ∃ (x5_2 : List Int) (x7_2 : Int), v7 = .int .i64 x7_2 ∧ Aside0 (spec_l11Linked.l1 kq a0 l1 x5_2 x7_2 = some r) ∧ Aside0 (kq ≤ k1) ∧ Aside0 (Kd.R (Kd.int .i64) 3 w' w.heap.size (fun _ => True) u5 x5_2) ∧ Aside0 (Below w.heap.size w w'))
   case atStart => exact ⟨(x5_1), (0), (by first | rfl | (simp; done) | (simp [*]; done)), H', ⟨Nat.le_refl _⟩, ⟨by (with_reducible repeat (first | apply Kd.R_alloc | apply Kd.R_drewN | apply Kd.R_drew)); exact HO_5.out⟩, ⟨by repeat (first | (with_reducible first | exact HB.out | apply below_alloc | apply pw_below_drewN | apply below_drew1) | exact HB.out)⟩⟩
   case round =>
    clear H'
    try clear c1; try clear p2; try clear c5; try clear c5b0; try clear c6; try clear p6; try clear p2
    obtain ⟨x5_2, x7_2, rfl, HA, HK2, HO_5, HB⟩ := hrel
    cases gk with
    | zero => exact absurd HA.out (by simp [spec_l11Linked.l1])
    | succ k2 =>
     have H := HA.out
     clear HA
     simp only [spec_l11Linked.l1] at H
     by_cases c8 : x7_2 < a0
     rotate_left
     ·rw [if_neg c8] at H
      have c8b0 : decide (x7_2 < a0) = false := decide_eq_false c8
      clear c8
      obtain rfl := Option.some.inj H
      go_wp2
      repeat (go_quiet (fail); try go_wp2)
      go_ret
      exact ⟨_, by first | rfl | (simp [errW_none, errW_some] <;> rfl) | (simp [*, errW_none, errW_some] <;> rfl), by (with_reducible repeat (first | apply Kd.R_alloc | apply Kd.R_drewN | apply Kd.R_drew)); exact HO_5.out, by repeat (first | (with_reducible first | exact HB.out | apply below_alloc | apply pw_below_drewN | apply below_drew1) | exact HB.out)⟩

     rw [if_pos c8] at H
     have c8b0 : decide (x7_2 < a0) = true := decide_eq_true c8
     clear c8
     have H' := Aside0.mk H
     clear H
     go_wp2
     repeat (go_quiet (fail); try go_wp2)
     go_loopg [8] k2 (fun kq v8 w' => ∃ (x5_3 : List Int) (x8_3 : Int), v8 = .int .i64 x8_3 ∧ Aside0 (spec_l11Linked.l2 kq a0 l1 x5_3 x7_2 x8_3 = some r) ∧ Aside0 (kq ≤ k2) ∧ Aside0 (Kd.R (Kd.int .i64) 3 w' w.heap.size (fun _ => True) u5 x5_3) ∧ Aside0 (Below w.heap.size w w'))
     case atStart => exact ⟨(x5_2), (0), (by first | rfl | (simp; done) | (simp [*]; done)), H', ⟨Nat.le_refl _⟩, ⟨by (with_reducible repeat (first | apply Kd.R_alloc | apply Kd.R_drewN | apply Kd.R_drew)); exact HO_5.out⟩, ⟨by repeat (first | (with_reducible first | exact HB.out | apply below_alloc | apply pw_below_drewN | apply below_drew1) | exact HB.out)⟩⟩
     case round =>
      clear H'
      try clear c1; try clear p2; try clear c5; try clear c5b0; try clear c6; try clear p6; try clear c8; try clear c8b0; try clear p2; try clear p6
      obtain ⟨x5_3, x8_3, rfl, HA, HK3, HO_5, HB⟩ := hrel
      cases gk with
      | zero => exact absurd HA.out (by simp [spec_l11Linked.l2])
      | succ k3 =>
       have H := HA.out
       clear HA
       simp only [spec_l11Linked.l2] at H
       by_cases c9 : x8_3 < (l1.length : Int)
       rotate_left
       ·rw [if_neg c9] at H
        have c9b0 : decide (x8_3 < (l1.length : Int)) = false := decide_eq_false c9
        clear c9
        have H' := Aside0.mk H
        clear H
        go_wp2
        repeat (go_quiet (fail); try go_wp2)
        go_roundg k3
        case measure => have := HK1.out; have := HK2.out; have := HK3.out; omega
        case rel => exact ⟨(x5_3), (wrap64 (x7_2 + 1)), (by first | rfl | (simp; done) | (simp [*]; done)), H', ⟨by have := HK1.out; have := HK2.out; have := HK3.out; omega⟩, ⟨by (with_reducible repeat (first | apply Kd.R_alloc | apply Kd.R_drewN | apply Kd.R_drew)); exact HO_5.out⟩, ⟨by repeat (first | (with_reducible first | exact HB.out | apply below_alloc | apply pw_below_drewN | apply below_drew1) | exact HB.out)⟩⟩
       rw [if_pos c9] at H
       have c9b0 : decide (x8_3 < (l1.length : Int)) = true := decide_eq_true c9
       clear c9
       by_cases c10 : 0 ≤ x8_3
       rotate_left
       ·rw [if_neg c10] at H
        exact absurd H (by simp)
       rw [if_pos c10] at H
       have c10b0 : decide (0 ≤ x8_3) = true := decide_eq_true c10
       clear c10
       by_cases c11 : 0 ≤ ((rd_T36 l1 x8_3).f0)
       rotate_left
       ·rw [if_neg c11] at H
        exact absurd H (by simp)
       rw [if_pos c11] at H
       have c11b0 : decide (0 ≤ ((rd_T36 l1 x8_3).f0)) = true := decide_eq_true c11
       clear c11
       by_cases c12 : ((rd_T36 l1 x8_3).f0) < (x5_3.length : Int)
       rotate_left
       ·rw [if_neg c12] at H
        exact absurd H (by simp)
       rw [if_pos c12] at H
       have c12b0 : decide (((rd_T36 l1 x8_3).f0) < (x5_3.length : Int)) = true := decide_eq_true c12
       clear c12
       by_cases c13 : 0 ≤ ((rd_T36 l1 x8_3).f1)
       rotate_left
       ·rw [if_neg c13] at H
        exact absurd H (by simp)
       rw [if_pos c13] at H
       have c13b0 : decide (0 ≤ ((rd_T36 l1 x8_3).f1)) = true := decide_eq_true c13
       clear c13
       by_cases c14 : ((rd_T36 l1 x8_3).f1) < (x5_3.length : Int)
       rotate_left
       ·rw [if_neg c14] at H
        exact absurd H (by simp)
       rw [if_pos c14] at H
       have c14b0 : decide (((rd_T36 l1 x8_3).f1) < (x5_3.length : Int)) = true := decide_eq_true c14
       clear c14
       obtain ⟨ji15, hji15⟩ : ∃ j_ : Int, (mn (rd x5_3 ((rd_T36 l1 x8_3).f0)) (rd x5_3 ((rd_T36 l1 x8_3).f1))) = j_ := ⟨_, rfl⟩
       replace H : (spec_l11Linked.l2 k3 a0 l1 ((x5_3.set (((rd_T36 l1 x8_3).f0) : Int).toNat (ji15)).set (((rd_T36 l1 x8_3).f1) : Int).toNat (ji15)) x7_2 (wrap64 (x8_3 + 1))) = some r := by first | (rw [hji15] at H; exact H) | (simp only [hji15] at H ⊢; exact H)
       have hji15_ : (if (rd x5_3 ((rd_T36 l1 x8_3).f1)) < (rd x5_3 ((rd_T36 l1 x8_3).f0)) then (rd x5_3 ((rd_T36 l1 x8_3).f1)) else (rd x5_3 ((rd_T36 l1 x8_3).f0))) = ji15 := hji15
       obtain ⟨y461, hy461⟩ : ∃ y_ : List Int, y_ = (x5_3.set (((rd_T36 l1 x8_3).f0) : Int).toNat (ji15)) := ⟨_, rfl⟩
       replace H : (spec_l11Linked.l2 k3 a0 l1 (y461.set (((rd_T36 l1 x8_3).f1) : Int).toNat (ji15)) x7_2 (wrap64 (x8_3 + 1))) = some r := by first | (rw [hy461]; with_reducible exact H) | (have H2_ := (Option.bind_some _ _).symm.trans H; rw [hy461]; with_reducible exact H2_) | (have H2_ := (Option.bind_some _ _).symm.trans H; with_reducible exact H2_) | with_reducible exact H | (rw [hy461]; exact H) | exact H
       have Ny461 := Aside0.mk hy461
       clear hy461
       obtain ⟨y463, hy463⟩ : ∃ y_ : List Int, y_ = (y461.set (((rd_T36 l1 x8_3).f1) : Int).toNat (ji15)) := ⟨_, rfl⟩
       replace H : (spec_l11Linked.l2 k3 a0 l1 y463 x7_2 (wrap64 (x8_3 + 1))) = some r := by first | (rw [hy463]; with_reducible exact H) | (have H2_ := (Option.bind_some _ _).symm.trans H; rw [hy463]; with_reducible exact H2_) | (have H2_ := (Option.bind_some _ _).symm.trans H; with_reducible exact H2_) | with_reducible exact H | (rw [hy463]; exact H) | exact H
       have Ny463 := Aside0.mk hy463
       clear hy463
       have H' := Aside0.mk H
       clear H
       have p456 : 0 ≤ (x8_3 : Int) := od_
       have q456 : x8_3 < (l1.length : Int) := od_
       obtain ⟨ad456, e456, hx456_0, hx456_1, hx456_2, hx456_3⟩ := at_T36 HR1.out x8_3 p456 q456
       cases e456
       replace hx456_0 := up_ HB.out hx456_0
       replace hx456_1 := up_ HB.out hx456_1
       replace hx456_2 := up_ HB.out hx456_2
       replace hx456_3 := up_ HB.out hx456_3
       replace p456 := eq_true p456
       replace q456 := eq_true q456
       obtain ⟨Ao18, co18, eo18⟩ := Kd.R_slice HO_5.out
       subst eo18
       have p457 : 0 ≤ (((rd_T36 l1 x8_3).f0) : Int) := od_
       have q457 : ((rd_T36 l1 x8_3).f0) < (x5_3.length : Int) := od_
       obtain ⟨ad457, e457, hx457_0⟩ := Kd.at_int (Kd.R_reads' HO_5.out).2.2 ((rd_T36 l1 x8_3).f0) p457 q457
       cases e457
       replace p457 := eq_true p457
       replace q457 := eq_true q457
       have p458 : 0 ≤ (x8_3 : Int) := od_
       have q458 : x8_3 < (l1.length : Int) := od_
       obtain ⟨ad458, e458, hx458_0, hx458_1, hx458_2, hx458_3⟩ := at_T36 HR1.out x8_3 p458 q458
       obtain rfl : ad456 = ad458 := (by injection e458)
       replace hx458_0 := up_ HB.out hx458_0
       replace hx458_1 := up_ HB.out hx458_1
       replace hx458_2 := up_ HB.out hx458_2
       replace hx458_3 := up_ HB.out hx458_3
       replace p458 := eq_true p458
       replace q458 := eq_true q458
       have p459 : 0 ≤ (((rd_T36 l1 x8_3).f1) : Int) := od_
       have q459 : ((rd_T36 l1 x8_3).f1) < (x5_3.length : Int) := od_
       obtain ⟨ad459, e459, hx459_0⟩ := Kd.at_int (Kd.R_reads' HO_5.out).2.2 ((rd_T36 l1 x8_3).f1) p459 q459
       obtain rfl : ad457 = ad459 := (by injection e459)
       replace p459 := eq_true p459
       replace q459 := eq_true q459
       have p460 : 0 ≤ (x8_3 : Int) := od_
       have q460 : x8_3 < (l1.length : Int) := od_
       obtain ⟨ad460, e460, hx460_0, hx460_1, hx460_2, hx460_3⟩ := at_T36 HR1.out x8_3 p460 q460
       obtain rfl : ad456 = ad460 := (by injection e460)
       replace hx460_0 := up_ HB.out hx460_0
       replace hx460_1 := up_ HB.out hx460_1
       replace hx460_2 := up_ HB.out hx460_2
       replace hx460_3 := up_ HB.out hx460_3
       replace p460 := eq_true p460
       replace q460 := eq_true q460
       have p16 : 0 ≤ (((rd_T36 l1 x8_3).f0) : Int) := od_
       have q16 : (((rd_T36 l1 x8_3).f0) : Int) < ((x5_3.length : Int) : Int) := od_
       obtain ⟨go16, co16, eo16, gb16, gl16, cl16, HG16⟩ := Kd.R_form HO_5.out (by omega)
       (first | cases eo16 | (injection eo16 with ea_ en_ ec_; (first | subst ea_ | (injection ea_ with ea_; subst ea_)); subst ec_; clear en_))
       have GB16 := Aside0.mk gb16
       have GG16 := Aside0.mk HG16
       clear gb16 gl16 HG16
       (first | simp only [add_plain] at hx457_0 | skip)
       (first | simp only [add_plain] at hx459_0 | skip)
       obtain ⟨hx16_0, hf16_0⟩ := Kd.R_celln 0 HO_5.out (((rd_T36 l1 x8_3).f0) : Int) p16 q16
       replace p16 := eq_true p16
       replace q16 := eq_true q16
       obtain ⟨hy19_, hz19_⟩ := Kd.R_celln 0 HO_5.out (((rd_T36 l1 x8_3).f0) : Int) (od_) (od_)
       have HP19 := Kd.R_putg HO_5.out (((rd_T36 l1 x8_3).f0) : Int) ji15
       go_wp2_with (first | ((with_reducible refine gate_store (t := 3) (p := 55) rfl ?_); (try (rw [drewN_self wr]; generalize hq_ : World.drewN wr _ = wr; have n0_ := Aside0.mk (Kd.R_at hq_ HO_5.out); have n1_ := Aside0.mk (below_at hq_ HB.out); clear hq_ HO_5 HB; have HO_5 := n0_; have HB := n1_; clear n0_ n1_; (try (obtain ⟨hy19_, hz19_⟩ := Kd.R_celln 0 HO_5.out (((rd_T36 l1 x8_3).f0) : Int) (od_) (od_))); (try (have HP19 := Kd.R_putg HO_5.out (((rd_T36 l1 x8_3).f0) : Int) ji15)))); refine store_event (t := 3) (p := 55) (v := ?vo_w20) (w1 := (wr.setCell ⟨go16, (((rd_T36 l1 x8_3).f0) : Int).toNat, none⟩ (.int .i64 ji15))) ?hg ?ho ?hn ?hr ?_; (case ho => rfl); (case hg => rfl); (case hn => rfl); (case hr => first | (go_simp; done) | (go_simp; rfl)); intro w20 hw; have hg : wr.grownBy w20 (some go16) := (by rw [hw]; exact HP19.2); have hp_ : Kd.R (Kd.int .i64) 3 w20 w.heap.size (fun _ => True) (.slice (some ⟨go16, 0, none⟩) x5_3.length co18) y461 := (by rw [hw, Ny461.out]; exact HP19.1); clear HP19; have n0_ := Aside0.mk (hp_); have n1_ := Aside0.mk ((by rw [hw]; exact below_set (HB.out) GB16.out : Below w.heap.size w w20)); clear HO_5; clear HB; have HO_5 := n0_; have HB := n1_; clear n0_ n1_; clear hg hw hp_; have p462 : 0 ≤ (x8_3 : Int) := od_; have q462 : x8_3 < (l1.length : Int) := od_; obtain ⟨ad462, e462, hx462_0, hx462_1, hx462_2, hx462_3⟩ := at_T36 HR1.out x8_3 p462 q462; obtain rfl : ad456 = ad462 := (by injection e462); replace hx462_0 := up_ HB.out hx462_0; replace hx462_1 := up_ HB.out hx462_1; replace hx462_2 := up_ HB.out hx462_2; replace hx462_3 := up_ HB.out hx462_3; replace p462 := eq_true p462; replace q462 := eq_true q462; have p17 : 0 ≤ (((rd_T36 l1 x8_3).f1) : Int) := od_; have q17 : (((rd_T36 l1 x8_3).f1) : Int) < ((x5_3.length : Int) : Int) := od_; obtain ⟨hx17_0, hf17_0⟩ := Kd.R_celln 0 HO_5.out (((rd_T36 l1 x8_3).f1) : Int) p17 q17; replace p17 := eq_true p17; replace q17 := eq_true q17; obtain ⟨hy21_, hz21_⟩ := Kd.R_celln 0 HO_5.out (((rd_T36 l1 x8_3).f1) : Int) (od_) (od_); have HP21 := Kd.R_putg HO_5.out (((rd_T36 l1 x8_3).f1) : Int) ji15) | ((with_reducible refine gate_store (t := 3) (p := 63) rfl ?_); (try (rw [drewN_self w20]; generalize hq_ : World.drewN w20 _ = w20; have n0_ := Aside0.mk (Kd.R_at hq_ HO_5.out); have n1_ := Aside0.mk (below_at hq_ HB.out); clear hq_ HO_5 HB; have HO_5 := n0_; have HB := n1_; clear n0_ n1_; (try (obtain ⟨hy21_, hz21_⟩ := Kd.R_celln 0 HO_5.out (((rd_T36 l1 x8_3).f1) : Int) (od_) (od_))); (try (have HP21 := Kd.R_putg HO_5.out (((rd_T36 l1 x8_3).f1) : Int) ji15)))); refine store_event (t := 3) (p := 63) (v := ?vo_w22) (w1 := (w20.setCell ⟨go16, (((rd_T36 l1 x8_3).f1) : Int).toNat, none⟩ (.int .i64 ji15))) ?hg ?ho ?hn ?hr ?_; (case ho => rfl); (case hg => rfl); (case hn => rfl); (case hr => first | (go_simp; done) | (go_simp; rfl)); intro w22 hw; have hg : w20.grownBy w22 (some go16) := (by rw [hw]; exact HP21.2); have hp_ : Kd.R (Kd.int .i64) 3 w22 w.heap.size (fun _ => True) (.slice (some ⟨go16, 0, none⟩) x5_3.length co18) y463 := (by rw [hw, Ny463.out]; exact HP21.1); clear HP21; have n0_ := Aside0.mk (hp_); have n1_ := Aside0.mk ((by rw [hw]; exact below_set (HB.out) GB16.out : Below w.heap.size w w22)); clear HO_5; clear HB; have HO_5 := n0_; have HB := n1_; clear n0_ n1_; clear hg hw hp_) | (go_quiet (fail)))
       go_roundg k3
       case measure => have := HK1.out; have := HK2.out; have := HK3.out; omega
       case rel => exact ⟨(y463), (wrap64 (x8_3 + 1)), (by first | rfl | (simp; done) | (simp [*]; done)), H', ⟨by have := HK1.out; have := HK2.out; have := HK3.out; omega⟩, ⟨by (with_reducible repeat (first | apply Kd.R_alloc | apply Kd.R_drewN | apply Kd.R_drew)); exact HO_5.out⟩, ⟨by repeat (first | (with_reducible first | exact HB.out | apply below_alloc | apply pw_below_drewN | apply below_drew1) | exact HB.out)⟩⟩
/-! ### spec_NetLinked: function 70 -/
def spec_NetLinked.f (k : Nat) (a0 : Int) (l1 : List (S36)) : Option (List Int) := (spec_NetValid.f k a0 l1).bind fun t464 => (if t464 = true then ((spec_l11Linked.f k a0 l1).bind fun t465 => (some t465)) else (some (([] : List Int))))
set_option maxHeartbeats 8000000 in
set_option maxRecDepth 100000 in
theorem spec_NetLinked.calls (k : Nat) (a0 : Int) (A1 : Option Addr) (c1 : Nat) (l1 : List (S36)) (r : List Int) (w : World) (hr1 : Kd.C k36 w A1 l1.length l1) (hc1 : l1.length ≤ c1) (h : spec_NetLinked.f k a0 l1 = some r) :
  Calls Try.prog 70 #[.int .i64 a0, .slice A1 l1.length c1] w fun e w' => ∃ v0_ : Value, e = .returned (v0_) ∧ Kd.R (Kd.int .i64) 3 w' w.heap.size (fun _ => True) v0_ r ∧ Below w.heap.size w w' := by
 have HR1 := Aside0.mk hr1
 have HC1 := Aside0.mk hc1
 clear hr1 hc1
 have HB := Aside0.mk (Below.refl w.heap.size w)
 have H : ((spec_NetValid.f k a0 l1).bind fun t464 => (if t464 = true then ((spec_l11Linked.f k a0 l1).bind fun t465 => (some t465)) else (some (([] : List Int))))) = some r := h
 clear h
 replace H := Option.bind_eq_some_iff.mp H
 obtain ⟨t464, A30, H⟩ := H
 replace H : (if t464 = true then ((spec_l11Linked.f k a0 l1).bind fun t465 => (some t465)) else (some (([] : List Int)))) = some r := H
 have A3 := Aside0.mk A30
 clear A30
 by_cases c4 : t464 = true
 ·subst c4
  have H1 : ((spec_l11Linked.f k a0 l1).bind fun t465 => (some t465)) = some r := by rw [if_pos rfl] at H; exact H
  clear H
  have H := H1
  clear H1
  replace H := Option.bind_eq_some_iff.mp H
  obtain ⟨t465, A50, H⟩ := H
  replace H : (some t465) = some r := H
  have A5 := Aside0.mk A50
  clear A50
  obtain rfl := Option.some.inj H
  go_enter Try.func70, Try.ntmps70
  go_wp2_with (first | ((with_reducible refine gate_callee (f := 44) rfl ?_); refine goesL_ (some 7) rfl rfl Try.func44 (by kernel_rfl) rfl #[.int .i64 a0, .slice A1 l1.length c1] rfl gs_ ?_; (with_reducible refine (spec_NetValid.calls k a0 _ _ l1 true _ ?side1 ?side2 A3.out).mono ?_); (case side1 => exact cl_ HR1.out); (case side2 => exact HC1.out); rintro e w6 ⟨rfl, hb⟩; refine ⟨_, rfl, ?_⟩; have n0_ := Aside0.mk (below_step (bw_ HB.out) hb); clear HB; have HB := n0_; clear n0_; (try clear hb); (try clear hb2); (try clear hk); (try clear hi)) | ((with_reducible refine gate_callee (f := 115) rfl ?_); refine goesL_ (some 12) rfl rfl Try.func115 (by kernel_rfl) rfl #[.int .i64 a0, .slice A1 l1.length c1] rfl gs_ ?_; (with_reducible refine (spec_l11Linked.calls k a0 _ _ l1 t465 _ ?side1 ?side2 A5.out).mono ?_); (case side1 => exact cl_ (Kd.C_below HR1.out HB.out)); (case side2 => exact HC1.out); rintro e w7 ⟨v466, rfl, ho0, hb⟩; refine ⟨_, rfl, ?_⟩; have n0_ := Aside0.mk (Kd.R_lower ho0 (below_size (bw_ HB.out))); have n1_ := Aside0.mk (below_step (bw_ HB.out) hb); clear HB; have HO467 := n0_; have HB := n1_; clear n0_ n1_; (try clear hb); (try clear hb2); (try clear hk); (try clear hi); (try clear ho0)))
  go_ret
  exact ⟨_, by first | rfl | (simp [errW_none, errW_some] <;> rfl) | (simp [*, errW_none, errW_some] <;> rfl), by (with_reducible repeat (first | apply Kd.R_alloc | apply Kd.R_drewN | apply Kd.R_drew)); exact HO467.out, by repeat (first | (with_reducible first | exact HB.out | apply below_alloc | apply pw_below_drewN | apply below_drew1) | exact HB.out)⟩
 replace c4 := Bool.eq_false_iff.mpr c4
 subst c4
 have H1 : (some (([] : List Int))) = some r := by rw [if_neg (show ¬ (false = true) by decide)] at H; exact H
 clear H
 have H := H1
 clear H1
 obtain ⟨y468, hy468⟩ : ∃ y_ : List Int, y_ = (([] : List Int)) := ⟨_, rfl⟩
 replace H : (some y468) = some r := by first | (rw [hy468]; with_reducible exact H) | (have H2_ := (Option.bind_some _ _).symm.trans H; rw [hy468]; with_reducible exact H2_) | (have H2_ := (Option.bind_some _ _).symm.trans H; with_reducible exact H2_) | with_reducible exact H | (rw [hy468]; exact H) | exact H
 have Ny468 := Aside0.mk hy468
 clear hy468
 obtain rfl := Option.some.inj H
 go_enter Try.func70, Try.ntmps70
 go_wp2_with (first | ((with_reducible refine gate_callee (f := 44) rfl ?_); refine goesL_ (some 7) rfl rfl Try.func44 (by kernel_rfl) rfl #[.int .i64 a0, .slice A1 l1.length c1] rfl gs_ ?_; (with_reducible refine (spec_NetValid.calls k a0 _ _ l1 false _ ?side1 ?side2 A3.out).mono ?_); (case side1 => exact cl_ HR1.out); (case side2 => exact HC1.out); rintro e w8 ⟨rfl, hb⟩; refine ⟨_, rfl, ?_⟩; have n0_ := Aside0.mk (below_step (bw_ HB.out) hb); clear HB; have HB := n0_; clear n0_; (try clear hb); (try clear hb2); (try clear hk); (try clear hi)) | ((with_reducible refine gate_dst (N := 9) rfl ?_); refine Kd.R_lit (Kd.int .i64) _ 3 ?hg (N := 9) ?hd (xs := ([] : List Int)) (inner := []) (ok := fun _ => True) (okp := fun _ => True) ?hr ?hp (fun _ hk => hk) trivial (Below.refl _ _) (Nat.le_refl _) (by simp) ?_; (case hd => rfl); (case hg => rfl); (case hr => first | (go_simp; done) | (go_simp; rfl)); (case hp => exact (Reps.none _ _)); intro v469 w9 ho10 hb hg_ hnew_; clear hg_ hnew_; (first | rw [← Ny468.out] at ho10 | (simp only [Int.reduceToNat] at ho10; rw [← Ny468.out] at ho10)); have n0_ := Aside0.mk (Kd.R_lower ho10 (below_size (bw_ HB.out))); have n1_ := Aside0.mk (below_step (bw_ HB.out) hb); clear HB; have HO470 := n0_; have HB := n1_; clear n0_ n1_; clear hb ho10))
 go_ret
 exact ⟨_, by first | rfl | (simp [errW_none, errW_some] <;> rfl) | (simp [*, errW_none, errW_some] <;> rfl), by (with_reducible repeat (first | apply Kd.R_alloc | apply Kd.R_drewN | apply Kd.R_drew)); exact HO470.out, by repeat (first | (with_reducible first | exact HB.out | apply below_alloc | apply pw_below_drewN | apply below_drew1) | exact HB.out)⟩

end Go.Proofs.Ytbnndmkkmceenaa.P0
